import PyProof.Rows.All
import Wide.All
import OpenK.AllK
import Wide.FinOn
import HandS.AnyAll
import HandS.GenOver
import PyProof.GenCompD
import HandS.Zip
import KE.GoesZip
import KE.GoesMore
import KE.GoesEnum
import HandS.ForMost
import HandS.ForExc
import HandS.Wide
import HandS.HeadHook1
import HandS.IsInst
import HandS.Deep
import HandS.TupAny
import HandS.TupLe
import HandS.More
import HandS.EndBits
import HandS.Defaults
import HandS.Head0
import HandS.Head1
import HandS.Head2
import HandS.HeadEnd
import HandS.HeadHook2
import HandS.HeadHook4
import KE.KNestM
import PyProof.ReprRoads
import HandS.Style
import KE.DataFind
import HandS.TryOnly
import HandS.Rev
import HandS.Conv
import PyProof.ListRange
import HandS.ExcIs
import HandS.ExcOwn
import HandS.WordsExc
import HandS.List
import HandS.Dict
import HandS.ExcInit
import HandS.FStr
import HandS.Nested
import KE.KExcSuper
import HandS.ExcField
import HandS.Text
import HandS.Codes
import PySem.Challenge.RW_raytrain_k18_first_token_that_cannot_sta
set_option Elab.async false
set_option linter.all false

set_option maxRecDepth 100000
set_option maxHeartbeats 4000000

namespace RG
open PySem PySem.Spec PyProof.Rows L2 GxR
abbrev GCx (X : Cx) (s : Shared) (H : Hp) (cenv : Env) (fp : List Addr) (A : Around) : Cx :=
  { X with A := A, s_0 := s, H_0 := H, env := cenv, outer := X.stack, stack := cenv :: X.stack, ex := fp, fn := fun _ => false, pn := [], xe := fun _ _ => False }
section
variable {X : Cx} {pins : List (Addr × Obj)} {σ : L2.St} {H : Hp} {s : Shared}
theorem gens_irrel {s' : Shared} (I : Inv X pins σ H s) (hh : s'.heap = s.heap) (ho : s'.os = s.os) (hb : AllBare s'.gens) : Inv X pins σ H s' := by
  obtain ⟨h', g', d', t', o'⟩ := s'
  obtain ⟨h, g, d, t, o⟩ := s
  cases hh
  cases ho
  exact ⟨I.ok, I.os, hb, I.base, I.loc, I.cell, I.free, I.freeC, I.pin, I.hok, I.len⟩
theorem bare_set {s : Shared} {g : Nat} {x : GenState} (h : AllBare s.gens) (hx : x.bare = true) : AllBare (s.setGen g x).gens := fun y hy => by
  have hy' : y ∈ s.gens.setIfInBounds g x := hy
  rcases Array.mem_or_eq_of_mem_setIfInBounds hy' with z | z
  · exact h y z
  · rw [z]
    exact hx
theorem gen_start {scope : Scope} {own : List (Str × Nat)} {fp : List Addr} {C ag : Addr} {og : Obj} {code : Value} {m0 : Str → Option Value} {A' : Around} {s5 : Shared} (I : Inv X pins σ H s) (ok : BlkOk X.N X.env.scope scope own) (hN : X.N.Nodup)
    (hcell : ∀ y ∈ scope.names, y.2 ≠ .cell) (hfp : ∀ b ∈ fp, FpOk X pins H b ∧ b < s.heap.objs.size) (hA : A'.handled = none) (hAf : A'.frames = some (genEnv scope (cloFrom X.env.cells scope.names []) C code builtinsNs X.env :: X.stack)) (hC : C = s.heap.objs.size)
    (h5o : s5.os = s.os) (h5b : AllBare s5.gens) (h5n : s5.heap.Ns C m0) (h5k : ∀ b o, s.heap.get? b = some o → s5.heap.get? b = some o) (h5g : s5.heap.get? ag = some og) (hag : C < ag) (hog : ∀ v, og.data ≠ .cell v) :
    Inv (GCx X s H (genEnv scope (cloFrom X.env.cells scope.names []) C code builtinsNs X.env) fp A') [(ag, og)] (wipe σ (own.map (·.2))) H s5 := by
  have hfree : ∀ y ∈ scope.names, y.2 = .free → ∃ c, X.env.cells.lookup y.1 = some c := fun y hy e => by
    rcases ok.free y hy e with k | k
    · exact I.ok.has _ (.inl k)
    · exact I.ok.has _ (.inr k)
  subst hC
  generalize hcenv : genEnv scope (cloFrom X.env.cells scope.names []) s.heap.objs.size code builtinsNs X.env = cenv at *
  have hL : cenv.locals = s.heap.objs.size := by rw [← hcenv]; rfl
  have hcl : cenv.cells = cloFrom X.env.cells scope.names [] := by rw [← hcenv]; rfl
  have hsc : cenv.scope = scope := by rw [← hcenv]; rfl
  have mem : ∀ {y c}, cenv.cells.lookup y = some c → X.env.cells.lookup y = some c ∧ c < s.heap.objs.size ∧ scope.names.lookup y = some .free := fun {y c} e => by
    rw [hcl] at e
    rcases cloFrom_mem (PySem.mem_of_lookup e) with hm | ⟨h1, rfl⟩
    · cases hm
    · obtain ⟨c, hc⟩ := hfree _ h1 rfl
      rw [hc]
      obtain ⟨w, z⟩ := I.cell _ _ hc
      exact ⟨rfl, z.lt, ok.uniq _ h1⟩
  have look : ∀ {y}, scope.names.lookup y = some .free → ∃ c, cenv.cells.lookup y = some c ∧ X.env.cells.lookup y = some c := fun {y} hl => by
    have hy : (y, NameKind.free) ∈ scope.names := PySem.mem_of_lookup hl
    obtain ⟨c', e'⟩ := mem_lookup (cloFrom_has (cells := X.env.cells) (acc := []) hy)
    rw [← hcl] at e'
    exact ⟨c', e', (mem e').1⟩
  have nocell : ∀ {y}, scope.names.lookup y ≠ some .cell := fun {y} e => hcell _ (PySem.mem_of_lookup e) rfl
  have okB : (GCx X s H cenv fp A').Ok := by
    refine ⟨I.ok.mod, by show cenv.scope.kind = _; rw [hsc]; exact ok.kind, by show cenv.globals = _; rw [← hcenv]; exact I.ok.glob, by show cenv.builtins = _; rw [← hcenv]; rfl, by show s.heap.objs.size ≤ cenv.locals; rw [hL]; exact Nat.le_refl _,
      fun y z c e1 e2 => I.ok.inj y z c (mem e1).1 (mem e2).1, fun y hy => ?_, fun y c z e => (Bool.false_ne_true z).elim, fun _ => hA, hAf, .inr ⟨rfl, by show cenv.frame = some cenv.locals; rw [← hcenv]; rfl⟩, fun b hb => ⟨?_, fun y c e z => (hfp b hb).1.2.2.2.2.1 y c (mem e).1 z⟩, I.bs, Nat.le_trans I.ok.bsz I.sz, fun b o e hb => ?_, fun b hb z => ?_, I.stack, I.stkFree⟩
    · have hy : scope.names.lookup y = some .cell ∨ scope.names.lookup y = some .free := by
        have hy' : cenv.scope.names.lookup y = some .cell ∨ cenv.scope.names.lookup y = some .free := hy
        rw [hsc] at hy'
        exact hy'
      rcases hy with e | e
      · exact (nocell e).elim
      · obtain ⟨c, h1, _⟩ := look e
        exact ⟨c, h1⟩
    · show b ≠ cenv.locals
      rw [hL]; exact Nat.ne_of_lt (hfp b hb).2
    · rcases (hfp b hb).1.2.2.2.1 with z | z
      · exact I.ok.noex b o e z
      · exact absurd (Nat.lt_of_lt_of_le (Heap.lt_size e) (Nat.le_trans I.ok.bsz z)) (Nat.lt_irrefl _)
    · rcases List.mem_cons.mp (I.stkSub b z) with z | z
      · exact (hfp b hb).1.2.1 z
      · exact (hfp b hb).1.2.2.1 z
  refine ⟨okB, h5o, h5b, Un.kept h5k, ⟨m0, by show s5.heap.Ns cenv.locals m0; rw [hL]; exact h5n, fun i y av e1 e2 e3 => ?_⟩, fun y c e => ?_, by show H cenv.locals = none; rw [hL]; exact I.hok.fresh (Nat.le_refl _), fun y c e => I.freeC y c (mem e).1, fun p hp => ?_, I.hok.kept h5k, by rw [wipe_length]; exact I.len⟩
  · obtain ⟨e2, hne⟩ := wipe_some e2
    have no : ∀ k, scope.names.lookup y = some k → ¬ (k = .local ∨ k = .cell) := fun k e hh => by
      rcases ok.own _ (PySem.mem_of_lookup e) hh with e' | e'
      · obtain ⟨p, hp, hpy⟩ := List.mem_map.mp e'
        have e3 := ok.ix p hp
        have : p.1 = y := hpy
        rw [this] at e3
        exact hne (List.mem_map.mpr ⟨p, hp, nodup_ix hN e3 e1⟩)
      · exact e' (List.mem_of_getElem? e1)
    have e3' : Vis scope y := by
      have e3' : Vis cenv.scope y := e3
      rw [hsc] at e3'
      exact e3'
    have hfr : scope.names.lookup y = some .free := by
      rcases e3' with e | e | e
      · exact (no _ e (.inl rfl)).elim
      · exact (no _ e (.inr rfl)).elim
      · exact e
    obtain ⟨m, hn, hl⟩ := I.loc
    have hvis : Vis X.env.scope y := (ok.free _ (PySem.mem_of_lookup hfr) rfl).elim (fun k => .inr (.inl k)) (fun k => .inr (.inr k))
    obtain ⟨w, r, q⟩ := hl i y av e1 e2 hvis
    refine ⟨w, r, .inr ⟨.inr (by show cenv.scope.names.lookup y = _; rw [hsc]; exact hfr), ?_⟩⟩
    obtain ⟨c, h1, h2⟩ := look hfr
    rcases q with ⟨k, _⟩ | ⟨_, c', e', z⟩
    · have k : X.env.scope.names.lookup y = some .local := k
      rcases ok.free _ (PySem.mem_of_lookup hfr) rfl with k' | k' <;> rw [show X.env.scope.names.lookup y = _ from k'] at k <;> cases k
    · rw [h2] at e'; cases e'
      exact ⟨c, h1, z.keeps h5k⟩
  · obtain ⟨w, z⟩ := I.cell y c (mem e).1
    exact ⟨w, z.keeps h5k⟩
  · have hp' : p = (ag, og) := by simpa using hp
    subst hp'
    refine ⟨h5g, I.hok.fresh (Nat.le_of_lt hag), by show ag ≠ cenv.locals; rw [hL]; exact Nat.ne_of_gt hag, fun z => ?_, hog⟩
    obtain ⟨_, o, ho, _⟩ := I.stack.mem z
    exact absurd (Nat.lt_trans (Heap.lt_size ho) hag) (Nat.lt_irrefl _)
def tGx (K : PySem.W.Frag) (P : Addr) (isAll : Bool) (wi : TI) (g : TG) (te : TE) (vs : List Nat) : TE := fun σ H Q => wi σ H fun J H1 => TabG H1 P ∧ ∀ H1', Tabbed P H1 H1' → ∃ W : Nat → Nat → Hp → Prop, (∃ m, W 0 m H1') ∧ ∀ i m H, W i m H →
  (J.stop i H ∧ Q (.bl isAll) H) ∨ (J.go i H ∧ ∃ Nx : Hp → Prop, (∀ H', Nx H' → ∃ m', m' < m ∧ W (i + 1) m' H') ∧ ∀ x H', J.yld i H x H' → g x (wipe σ vs) H' fun σ2 H2 => wipe σ2 vs = wipe σ vs ∧ te σ2 H2 fun y H3 =>
    ∃ b, y = .bl b ∧ if b = isAll then Nx H3 else Q (.bl b) H3)
def GR (X' : Cx) (pn : List (Addr × Obj)) (Qe : Hp → Prop) : GenEnd := fun _ _ r s₁ => r = .ok .next ∧ ∃ H4 σ4, Inv X' pn σ4 H4 s₁ ∧ Qe H4
def GY (X' : Cx) (pn : List (Addr × Obj)) (isAll : Bool) (Qx : Hp → Prop) : Protocol := fun _ _ v s kap => ∃ H4 σ4 b, v = .bool b ∧ Inv X' pn σ4 H4 s ∧
  if b = isAll then (∀ s'' : Shared, s''.heap = s.heap → s''.os = s.os → AllBare s''.gens → kap (.send .none) s'') else Qx H4
structure GSt (X' : Cx) (pn : List (Addr × Obj)) (isAll : Bool) (Qe Qx : Hp → Prop) (A0 : Around) (ag : Addr) (g n : Nat) (s : Shared) : Prop where
  isg : s.heap.IsGen ag g
  lim : s.heap.NoLimit
  bare : AllBare s.gens
  go : ∃ gs, s.gens[g]? = some gs ∧ gs.Goes (model X'.prog X'.w) A0 (GR X' pn Qe) (GY X' pn isAll Qx) n (.send .none) (s.setGen g .running)
theorem get_set {s : Shared} {g : Nat} {x : GenState} (h : g < s.gens.size) : (s.setGen g x).gens[g]? = some x := by
  show (s.gens.setIfInBounds g x)[g]? = some x
  rw [Array.getElem?_setIfInBounds, if_pos rfl, if_pos h]
theorem turn_gen {X' : Cx} {pn : List (Addr × Obj)} {isAll : Bool} {Qe Qx : Hp → Prop} {A : Around} {ag : Addr} {g n : Nat} {s : Shared} {E : Value → Shared → Prop} {Q : Option Value → Shared → Prop} (hh : A.handled = none) (hroom : A.depth < recursionLimit) (hpn : ∀ σ H s, Inv X' pn σ H s → s.heap.IsGen ag g)
    (S : GSt X' pn isAll Qe Qx A.in1 ag g n s) (h1 : ∀ s', (∃ H4 σ4, Inv X' pn σ4 H4 s' ∧ Qe H4) → Q none s')
    (h2 : ∀ s' b, (if b = isAll then (∃ m, m < n ∧ GSt X' pn isAll Qe Qx A.in1 ag g m s') else ∃ H4 σ4, Inv X' pn σ4 H4 s' ∧ Qx H4) → Q (some (.bool b)) s') : wpAny (model X'.prog X'.w) A (pyNext (.ref ag)) Q E s := by
  obtain ⟨gs, hgs, hgo⟩ := S.go
  have hlt : g < s.gens.size := (Array.getElem?_eq_some_iff.mp hgs).1
  refine GenW.wpAny_gsz (n := g + 1) hlt ?_
  refine wpAny_pyNext_genexpQ (P := fun _ _ s₁ => ∃ H4 σ4, Inv X' pn σ4 H4 s₁ ∧ Qe H4) hh S.lim hroom S.isg hgs hgo (fun v s₁ gs' hb hv hsz => ?_) (fun s₁ hp h' hk hsz => ?_)
  · obtain ⟨H4, σ4, b, rfl, I4, q4⟩ := hv
    have hsz' : g < s₁.gens.size := by
      have e : (s₁.setGen g gs').gens.size = s₁.gens.size := GenW.setGen_size ..
      omega
    refine h2 _ b ?_
    by_cases hb2 : b = isAll
    · rw [if_pos hb2] at q4 ⊢
      have bs : AllBare (s₁.setGen g gs').gens := bare_set I4.bare hb
      have q5 := q4 ((s₁.setGen g gs').setGen g .running) rfl rfl (bare_set bs rfl)
      cases n with
      | zero => exact q5.elim
      | succ m =>
        refine ⟨m, Nat.lt_succ_self m, ⟨hpn _ _ _ (gens_irrel I4 rfl rfl bs), I4.nolimit, bs, gs', get_set hsz', q5⟩⟩
    · rw [if_neg hb2] at q4 ⊢
      exact ⟨H4, σ4, gens_irrel I4 rfl rfl (bare_set I4.bare hb), q4⟩
  · obtain ⟨H4, σ4, I4, q4⟩ := hp
    exact h1 _ ⟨H4, σ4, gens_irrel (s := { s₁ with heap := h' }) (I4.kept (t' := s₁.toks) hk) rfl rfl (bare_set I4.bare rfl), q4⟩
theorem any_loop {X' : Cx} {pn : List (Addr × Obj)} {Qe Qx : Hp → Prop} {A : Around} {ag : Addr} {g : Nat} {R : Result → Shared → Prop} (hh : A.handled = none) (hroom : A.depth < recursionLimit) (hpn : ∀ σ H s, Inv X' pn σ H s → s.heap.IsGen ag g)
    (h1 : ∀ s', (∃ H4 σ4, Inv X' pn σ4 H4 s' ∧ Qe H4) → R (.ok (.ret (.bool false))) s') (h2 : ∀ s', (∃ H4 σ4, Inv X' pn σ4 H4 s' ∧ Qx H4) → R (.ok (.ret (.bool true))) s') : ∀ (n : Nat) (s : Shared),
    GSt X' pn false Qe Qx A.in1.in1 ag g n s → codeAny (model X'.prog X'.w) A (.builtin "any.loop" ⟨[.ref ag], []⟩) R s := by
  intro n
  induction n using Nat.strongRecOn with
  | ind n ih =>
    intro s S
    refine codeAny_builtin F.entry_any_loop ?_
    rw [Around.under_plainId F.plain_any_loop _]
    show wpAny _ A.in1 (pyNext (.ref ag) >>= _) _ _ s
    refine wpAny_bind (turn_gen (A := A.in1) hh hroom hpn S (fun s' q => ?_) fun s' b q => ?_)
    · exact wpAny_bind (wpAny_rule (wpAny_pure (h1 s' q)))
    · refine wpAny_bind (wpAny_holding (wpAny_truthy_bool ?_))
      refine wpAny_bind (wpAny_letGo ?_)
      cases b with
      | false =>
        simp only [Bool.false_eq_true, if_false]
        rw [if_pos rfl] at q
        obtain ⟨m, hm, S'⟩ := q
        exact wpAny_pure ⟨plainId_quiet F.plain_any_loop _, ih m hm s' S'⟩
      | true =>
        simp only [if_true]
        rw [if_neg (by decide)] at q
        exact wpAny_bind (wpAny_rule (wpAny_pure (h2 s' q)))
theorem all_loop {X' : Cx} {pn : List (Addr × Obj)} {Qe Qx : Hp → Prop} {A : Around} {ag : Addr} {g : Nat} {R : Result → Shared → Prop} (hh : A.handled = none) (hroom : A.depth < recursionLimit) (hpn : ∀ σ H s, Inv X' pn σ H s → s.heap.IsGen ag g)
    (h1 : ∀ s', (∃ H4 σ4, Inv X' pn σ4 H4 s' ∧ Qe H4) → R (.ok (.ret (.bool true))) s') (h2 : ∀ s', (∃ H4 σ4, Inv X' pn σ4 H4 s' ∧ Qx H4) → R (.ok (.ret (.bool false))) s') : ∀ (n : Nat) (s : Shared),
    GSt X' pn true Qe Qx A.in1.in1 ag g n s → codeAny (model X'.prog X'.w) A (.builtin "all.loop" ⟨[.ref ag], []⟩) R s := by
  intro n
  induction n using Nat.strongRecOn with
  | ind n ih =>
    intro s S
    refine codeAny_builtin F.entry_all_loop ?_
    rw [Around.under_plainId F.plain_all_loop _]
    show wpAny _ A.in1 (pyNext (.ref ag) >>= _) _ _ s
    refine wpAny_bind (turn_gen (A := A.in1) hh hroom hpn S (fun s' q => ?_) fun s' b q => ?_)
    · exact wpAny_bind (wpAny_rule (wpAny_pure (h1 s' q)))
    · refine wpAny_bind (wpAny_holding (wpAny_truthy_bool ?_))
      refine wpAny_bind (wpAny_letGo ?_)
      cases b with
      | true =>
        simp only [if_true]
        rw [if_pos rfl] at q
        obtain ⟨m, hm, S'⟩ := q
        exact wpAny_pure ⟨plainId_quiet F.plain_all_loop _, ih m hm s' S'⟩
      | false =>
        simp only [Bool.false_eq_true, if_false]
        rw [if_neg (by decide)] at q
        exact wpAny_bind (wpAny_rule (wpAny_pure (h2 s' q)))
end
end RG

set_option maxRecDepth 100000
set_option maxHeartbeats 4000000
namespace RG
open PySem PySem.Spec PyProof.Rows L2 GxR
section
variable {X : Cx} {pins : List (Addr × Obj)} {σ : L2.St} {H : Hp} {s : Shared}
theorem ne_not {a b : Bool} (h : ¬ a = b) : a = !b := by
  cases a <;> cases b <;> simp_all
theorem seg_turns {X' : Cx} {elt tg iter : Expr} {scope : Scope} {gpos : Pos} {it ag : Addr} {og : Obj} {fp : List Addr} {tn : Nat → Heap → Prop} {J : It} {vs : List Nat} {g : TG} {te : TE} {isAll : Bool} {Q : VK} {A0 : Around} {W : Nat → Nat → Hp → Prop}
    (hA : X'.A = A0.over (.compLoop (.GeneratorExp elt [⟨tg, iter, [], 0⟩] scope gpos) 0 (.ref it) .none X'.env) []) (hc : X'.calm = true) (hpn : X'.pn = []) (hex : X'.ex = fp) (hxe : X'.xe = fun _ _ => False) (hco : X'.env.scope.isCoroutine = false)
    (T : Turn X'.prog X'.w X'.K tg J fp it tn) (hg : PG X' tg g) (he : PE X' elt te) (hag : ∀ b ∈ fp, ag ≠ b)
    (turn : ∀ i m H, W i m H → (J.stop i H ∧ Q (.bl isAll) H) ∨ (J.go i H ∧ ∃ Nx : Hp → Prop, (∀ H', Nx H' → ∃ m', m' < m ∧ W (i + 1) m' H') ∧ ∀ x H', J.yld i H x H' → g x (wipe σ vs) H' fun σ2 H2 => wipe σ2 vs = wipe σ vs ∧ te σ2 H2 fun y H3 =>
      ∃ b, y = .bl b ∧ if b = isAll then Nx H3 else Q (.bl b) H3)) : ∀ (m n i : Nat) (s₀ s : Shared) (H' : Hp), m < n → Inv X' [(ag, og)] (wipe σ vs) H' s → tn i s.heap → (∀ b ∈ fp, H' b = none) → W i m H' →
      Seg (model X'.prog X'.w) A0 (GR X' [(ag, og)] (Q (.bl isAll))) (GY X' [(ag, og)] isAll (Q (.bl (!isAll)))) n s₀ (.compLoop (.GeneratorExp elt [⟨tg, iter, [], 0⟩] scope gpos) 0 (.ref it) .none X'.env)
        ((model X'.prog X'.w).den (.compLoop (.GeneratorExp elt [⟨tg, iter, [], 0⟩] scope gpos) 0 (.ref it) .none X'.env)) [] s := by
  have stat : ∀ {σ' : L2.St} {H' : Hp} {s' : Shared}, Inv X' [(ag, og)] σ' H' s' → (∀ b ∈ fp, H' b = none) → ∀ b ∈ fp, FpOk X' [(ag, og)] H' b := fun {σ' H' s'} I' hn b hb =>
    ⟨hn b hb, (I'.ok.exf b (by rw [hex]; exact hb)).1, I'.ok.exfs b (by rw [hex]; exact hb), .inl (by rw [hex]; exact hb), fun x c e => (I'.ok.exf b (by rw [hex]; exact hb)).2 x c e, fun p hp => by
      rw [hpn] at hp
      have e : p = (ag, og) := by simpa using hp
      rw [e]
      exact hag b hb⟩
  intro m
  induction m using Nat.strongRecOn with
  | ind m ih =>
    intro n i s₀ s H' hmn I5 st5 n5 w5
    obtain ⟨n, rfl⟩ : ∃ k, n = k + 1 := ⟨n - 1, by omega⟩
    show Seg _ A0 _ _ _ s₀ _ ((compTurn (.GeneratorExp elt [⟨tg, iter, [], 0⟩] scope gpos) 0 (.ref it) .none X'.env).onRaise (leaving X'.env)) [] s
    rw [compTurn_gen, Sem.onRaise_eq_wrap]
    refine seg_bind_wrap (wpAny_standAt ?_)
    rcases turn i m H' w5 with ⟨stop, qq⟩ | ⟨go, Nx, hNx, step⟩
    · have td := T.done X' rfl rfl rfl hc i [(ag, og)] s _ H' (fun _ _ => False) I5 (stat I5 n5) st5 stop
      rw [hA] at td
      refine seg_bind_wrap (thnF td fun r s6 ⟨hr, I6⟩ => ?_)
      subst hr
      exact seg_end (.ok .next) ⟨rfl, H', _, I6, qq⟩
    · have ti := T.item X' rfl rfl rfl hc i [(ag, og)] s _ H' (fun _ _ => False) I5 (stat I5 n5) st5 go
      rw [hA] at ti
      refine seg_bind_wrap (thnF ti fun r s6 ⟨u, hr, h6⟩ => ?_)
      subst hr
      refine seg_bind_wrap (thnF h6 fun _ s7 ⟨x, H7, I7, r7, y7, st7, n7⟩ => ?_)
      have I7' := I7.pinned (stat I7 n7) (T.obj _ _ st7)
      have pg := hg.run _ s7 _ H7 x u _ I7' r7 (step x H7 y7)
      rw [hxe, hA] at pg
      refine seg_bind_wrap (thnF pg fun _ s8 ⟨σ8, H8, I8, hw8, q8⟩ => ?_)
      refine seg_bind_wrap (wpAny_tests_nil ?_)
      simp only [if_true]
      have hy : ∀ v, yieldOut X'.env v = yieldValue v := fun v => by simp only [yieldOut, hco, Bool.false_eq_true, if_false]
      simp only [hy]
      rw [Sem.bind_eq_wrap', Sem.bind_eq_wrap', Sem.wrap_wrap, Sem.wrap_wrap]
      have pe := he.run _ s8 σ8 H8 _ I8 q8
      rw [hxe, hA] at pe
      refine seg_wrap (thnF pe fun z s10 ⟨yv, H10, I10, r10, b, eb, q10⟩ => ?_)
      subst eb
      have rz : z = .bool b := r10
      subst rz
      refine seg_at (seg_yield rfl rfl rfl ⟨H10, σ8, b, rfl, I10.unpinned, ?_⟩)
      by_cases hb : b = isAll
      · rw [if_pos hb] at q10 ⊢
        intro s'' eh eo bs
        obtain ⟨m', hm, w'⟩ := hNx H10 q10
        have pin' : ∀ b ∈ fp, ∀ o, s7.heap.get? b = some o → s10.heap.get? b = some o ∧ H10 b = none := fun b hb o e =>
          let z := I10.pin (b, o) (List.mem_append_right _ (List.mem_append_right _ (mem_pinsAt hb e)))
          ⟨z.1, z.2.1⟩
        have hl : (wipe σ vs).length = σ8.length := by rw [← hw8, wipe_length]
        have I11 : Inv X' [(ag, og)] (wipe σ vs) H10 s'' := gens_irrel ((I10.unpinned (pins := [(ag, og)])).weak hl fun j v e => by
          rw [← hw8] at e
          exact (wipe_some e).1) eh eo bs
        refine seg_again rfl (ih m' hm n (i + 1) s'' s'' H10 (by omega) I11 (T.keep _ _ _ st7 fun b hb o e => by rw [eh]; exact (pin' b hb o e).1) (fun b hb => ?_) w')
        obtain ⟨o, e, _⟩ := T.obj _ _ st7 b hb
        exact (pin' b hb o e).2
      · rw [if_neg hb] at q10 ⊢
        have e : b = !isAll := ne_not hb
        rw [← e]
        exact q10
theorem seg_begin {X' : Cx} {elt tg iter : Expr} {scope : Scope} {gpos : Pos} {it : Addr} {fp : List Addr} {tn : Nat → Heap → Prop} {J : It} {A0 : Around} {R : GenEnd} {Y : Protocol} {n i : Nat} {s₀ s : Shared} {cenv : Env}
    (T : Turn X'.prog X'.w X'.K tg J fp it tn) (st : tn i s.heap) (loop : Seg (model X'.prog X'.w) A0 R Y n s₀ (.compLoop (.GeneratorExp elt [⟨tg, iter, [], 0⟩] scope gpos) 0 (.ref it) .none cenv) ((model X'.prog X'.w).den (.compLoop (.GeneratorExp elt [⟨tg, iter, [], 0⟩] scope gpos) 0 (.ref it) .none cenv)) [] s) :
    Seg (model X'.prog X'.w) A0 R Y n s₀ (.compStart (.GeneratorExp elt [⟨tg, iter, [], 0⟩] scope gpos) 0 (.ref it) .none cenv) ((model X'.prog X'.w).den (.compStart (.GeneratorExp elt [⟨tg, iter, [], 0⟩] scope gpos) 0 (.ref it) .none cenv)) [] s := by
  show Seg _ A0 _ _ _ s₀ _ ((compStart (.GeneratorExp elt [⟨tg, iter, [], 0⟩] scope gpos) 0 (.ref it) .none cenv).onRaise (leaving cenv)) [] s
  unfold compStart
  rw [Sem.onRaise_eq_wrap]
  show Seg _ A0 _ _ _ s₀ _ ((ask >>= _).wrap _ _ _ _) [] s
  refine seg_bind_wrap (wpAny_askSetting ?_)
  split
  · exact seg_again rfl loop
  · first
      | exact seg_bind_wrap (wpAny_rule (seg_bind_wrap (wpAny_standAt (seg_bind_wrap (T.self _ i s _ _ st (seg_again rfl loop))))))
      | (refine seg_bind_wrap (wpAny_rule ?_); show Seg _ A0 _ _ _ s₀ _ ((standAt iter.pos >>= _).wrap _ _ _ _) [] s; exact seg_bind_wrap (wpAny_standAt (seg_bind_wrap (T.self _ i s _ _ st (seg_again rfl loop)))))

abbrev GA (A : Around) (elt tg iter : Expr) (scope : Scope) (gpos : Pos) (it : Addr) (cenv : Env) : Around := A.in1.in1.over (.compLoop (.GeneratorExp elt [⟨tg, iter, [], 0⟩] scope gpos) 0 (.ref it) .none cenv) []
structure GAo (A A' : Around) : Prop where
  hd : A'.handled = none
  dp : A'.depth ≤ A.depth + 1
  un : A'.units ≤ A.units + 8
  gd : A'.guards = A.guards
theorem gao {A : Around} {elt tg iter : Expr} {scope : Scope} {gpos : Pos} {it : Addr} {cenv : Env} (hh : A.handled = none) : GAo A (GA A elt tg iter scope gpos it cenv) := ⟨hh, Nat.le_of_eq rfl, by show A.units + 1 + 1 + 0 + 3 ≤ _; omega, rfl⟩
theorem gaf {A : Around} {elt tg iter : Expr} {scope : Scope} {gpos : Pos} {it : Addr} {cenv : Env} {l : List Env} (h : A.frames = some l) : (GA A elt tg iter scope gpos it cenv).frames = some (cenv :: l) := by
  show pushEnvs [cenv] (pushEnvs [] A.frames) = _
  rw [h]
  rfl
theorem gx_make {P c : Addr} {elt tg iter : Expr} {scope : Scope} {gpos : Pos} {own : List (Str × Nat)} {wi : TI} {g : TG} {te : TE} {isAll : Bool} {Q : VK} {Qf : Value → Shared → Prop} (hh : X.A.handled = none) (hroom : X.A.depth < recursionLimit)
    (hc : X.calm = true) (hN : X.N.Nodup) (TB : TabB X.base X.mg c P) (hcode : X.env.code = .ref c) (hi : PI X tg iter wi) (ok : BlkOk X.N X.env.scope scope own) (hco : scope.isCoroutine = false) (hcell : ∀ y ∈ scope.names, y.2 ≠ .cell) (hdot : scope.names.lookup (".0" : Str) = some NameKind.local)
    (hg : ∀ (s : Shared) (H : Hp) (C : Addr) (code : Value) (cl : List (Str × Addr)) (fp : List Addr) (A' : Around), GAo X.A A' → PG (GCx X s H (genEnv scope cl C code builtinsNs X.env) fp A') tg g)
    (he : ∀ (s : Shared) (H : Hp) (C : Addr) (code : Value) (cl : List (Str × Addr)) (fp : List Addr) (A' : Around), GAo X.A A' → PE (GCx X s H (genEnv scope cl C code builtinsNs X.env) fp A') elt te)
    (hs : ∀ v, genFold iter X.env v = pure v) (I : Inv X pins σ H s) (h : tGx X.K P isAll wi g te (own.map (·.2)) σ H Q)
    (hQ : ∀ (X' : Cx) (ag gn : Nat) (pn : List (Addr × Obj)) (n : Nat) (s5 : Shared), X'.prog = X.prog → X'.w = X.w → (∀ σ H s, Inv X' pn σ H s → s.heap.IsGen ag gn) → (∀ σ' H' s', Inv X' pn σ' H' s' → Inv X pins σ H' s') →
      GSt X' pn isAll (Q (.bl isAll)) (Q (.bl (!isAll))) X.A.in1.in1 ag gn n s5 → Qf (.ref ag) s5) :
    wpAny (model X.prog X.w) X.A (eval (.GeneratorExp elt [⟨tg, iter, [], 0⟩] scope gpos) X.env) Qf X.xe s := by
  have hfree : ∀ y ∈ scope.names, y.2 = .free → ∃ c, X.env.cells.lookup y.1 = some c := fun y hy e => by
    rcases ok.free y hy e with k | k
    · exact I.ok.has _ (.inl k)
    · exact I.ok.has _ (.inr k)
  refine wpAny_GeneratorExp_make hco (closure_ok hfree) hcell hdot ok.kind hroom ?_ hs
  refine thn (hi.run pins s σ H _ I h) fun xv s1 hx => thn hx fun itv s2 h2 => ?_
  obtain ⟨it, fp, tn, J, H2, e, I2, T, st2, f2, ⟨ps, hP, ht⟩, q⟩ := h2
  subst e
  refine ⟨I2.nolimit, ?_⟩
  have hPs : s2.heap.get? P = some { cls := .none, data := .fields ps } := I2.hok P _ hP
  have cd : PySem.W.CodeHd s2.heap c P := TB.code.keeps fun b u e => I2.bk b u e
  have fpP : ∀ b ∈ fp, b ≠ P := fun b hb z => by
    have := (f2 b hb).1
    rw [z, hP] at this
    cases this
  have cont : ∀ (code : Value) (h3 : Heap) (tk : Nat) (ps' : Array Value), Heap.ExtBut P s2.heap h3 → s2.heap.objs.size ≤ h3.objs.size → h3.get? P = some { cls := .none, data := .fields ps' } → (∃ more, ps' = ps ++ more) → TriplesOk ps'.toList →
      wpAny (model X.prog X.w) X.A (builtinsFor X.env.globals X.env.builtins) (fun bi s₄ =>
        ∀ h', h'.Ns s₄.heap.objs.size (fun y => if y = ".0" then some (.ref it) else none) → Heap.SameBut s₄.heap.objs.size (s₄.heap.push { cls := .type "frame", data := .dict #[] }) h' →
          Qf (.ref h'.objs.size) { s₄ with
            gens := s₄.gens.push (.fresh (.compStart (.GeneratorExp elt [⟨tg, iter, [], 0⟩] scope gpos) 0 (.ref it) .none (genEnv scope (cloFrom X.env.cells scope.names []) s₄.heap.objs.size code bi X.env))),
            toks := s₄.toks + 1 + 1 + 1,
            heap := h'.push { cls := .type "generator", data := .fields #[.int s₄.gens.size 0, .str "<genexpr>" (s₄.toks + 1), .str (X.env.qual ++ "<genexpr>") (s₄.toks + 1 + 1)] } }) X.xe { s2 with heap := h3, toks := tk } := by
    intro code h3 tk ps' hx3 hsz hP3 hmore ht3
    obtain ⟨bm, ob, e1, e2, e3, e4, e5, e6, e7, e8⟩ := TB.bm
    obtain ⟨more, em⟩ := hmore
    have keep3 : ∀ b u, b ≠ P → s2.heap.get? b = some u → h3.get? b = some u := fun b u hb e => hx3 b u hb e
    refine wpAny_builtinsFor (m := X.mg) (by rw [I2.ok.glob]; exact ((I2.mod.glob.keeps I2.bk)).extBut hx3 TB.gP) e1 e2 (keep3 _ _ e4 (I2.bk _ _ e5)) e6 e7 e8 ?_
    have I3 : Inv X pins σ (upd H2 P (.tbl (ps ++ more))) { s2 with heap := h3, toks := tk } := inv_tab (more := more) (h' := h3) (g' := s2.gens) (d' := s2.drawn) (t' := tk) I2 hP (fun b u hb e => keep3 b u hb e) (by rw [← em]; exact hP3) I2.bare
    generalize hs3 : ({ s2 with heap := h3, toks := tk } : Shared) = s3 at I3 ⊢
    have e3h : s3.heap = h3 := by rw [← hs3]
    have e3g : s3.gens = s2.gens := by rw [← hs3]
    intro h' hn' hsb
    obtain ⟨W, ⟨m0, w0⟩, turn⟩ := q (upd H2 P (.tbl (ps ++ more))) ⟨⟨ps ++ more, upd_same, by rw [← em]; exact ht3⟩, fun b hb => upd_ne hb⟩
    generalize hH3 : upd H2 P (.tbl (ps ++ more)) = H3 at I3 w0
    have szh : h'.objs.size = s3.heap.objs.size + 1 := by rw [hsb.1, Heap.size_push]
    have kp' : ∀ b o, s3.heap.get? b = some o → h'.get? b = some o := fun b o e => hsb.extBut b o (Nat.ne_of_lt (Heap.lt_size e)) (Heap.get?_push_of_some _ e)
    have kp5 : ∀ b o, s3.heap.get? b = some o → (h'.push { cls := .type "generator", data := .fields #[.int s3.gens.size 0, .str "<genexpr>" (s3.toks + 1), .str (X.env.qual ++ "<genexpr>") (s3.toks + 1 + 1)] }).get? b = some o := fun b o e => Heap.get?_push_of_some _ (kp' b o e)
    generalize hog : ({ cls := .type "generator", data := .fields #[.int s3.gens.size 0, .str "<genexpr>" (s3.toks + 1), .str (X.env.qual ++ "<genexpr>") (s3.toks + 1 + 1)] } : Obj) = og at kp5 ⊢
    have gog : (h'.push og).get? h'.objs.size = some og := Heap.get?_push_size _ (by rw [← hog]; rfl)
    have isg : ∀ hh : Heap, hh.get? h'.objs.size = some og → hh.IsGen h'.objs.size s3.gens.size := fun hh e => ⟨og, _, _, e, by rw [← hog], by rw [← hog], by rw [← hog]⟩
    have f3 : ∀ b ∈ fp, FpOk X pins H3 b ∧ b < s3.heap.objs.size := fun b hb => by
      have hb2 := fpP b hb
      obtain ⟨o, eo, _⟩ := T.obj _ _ st2 b hb
      refine ⟨⟨?_, (f2 b hb).2⟩, ?_⟩
      · rw [← hH3, upd_ne hb2]
        exact (f2 b hb).1
      · rw [e3h]
        exact Nat.lt_of_lt_of_le (Heap.lt_size eo) hsz
    have st3 : tn 0 s3.heap := T.keep _ _ _ st2 fun b hb o e => by
      rw [e3h]
      exact keep3 b o (fpP b hb) e
    generalize hce : genEnv scope (cloFrom X.env.cells scope.names []) s3.heap.objs.size code builtinsNs X.env = cenv
    have cL : cenv.locals = s3.heap.objs.size := by subst hce; rfl
    have hA' := gao (A := X.A) (elt := elt) (tg := tg) (iter := iter) (scope := scope) (gpos := gpos) (it := it) (cenv := cenv) hh
    have hAf := gaf (A := X.A) (elt := elt) (tg := tg) (iter := iter) (scope := scope) (gpos := gpos) (it := it) (cenv := cenv) I.ok.frames
    have pg := hg s3 H3 s3.heap.objs.size code (cloFrom X.env.cells scope.names []) fp _ hA'
    have pe := he s3 H3 s3.heap.objs.size code (cloFrom X.env.cells scope.names []) fp _ hA'
    rw [hce] at pg pe
    have hag : s3.heap.objs.size < h'.objs.size := by rw [szh]; exact Nat.lt_succ_self _
    have start : ∀ s5 : Shared, s5.heap = h'.push og → s5.os = s3.os → AllBare s5.gens → Inv (GCx X s3 H3 cenv fp (GA X.A elt tg iter scope gpos it cenv)) [(h'.objs.size, og)] (wipe σ (own.map (·.2))) H3 s5 := fun s5 eh eo eb => by
      have z := gen_start (own := own) (fp := fp) (C := s3.heap.objs.size) (ag := h'.objs.size) (og := og) (code := code) (A' := GA X.A elt tg iter scope gpos it cenv) (s5 := s5) (m0 := fun y => if y = ".0" then some (.ref it) else none) I3 ok hN hcell f3 hA'.hd (by rw [hce]; exact hAf) rfl eo eb (by rw [eh]; exact hn'.push _) (by rw [eh]; exact kp5) (by rw [eh]; exact gog) hag (by rw [← hog]; intro v z; cases z)
      rw [hce] at z
      exact z
    have bs5 : AllBare (s3.gens.push (.fresh (.compStart (.GeneratorExp elt [⟨tg, iter, [], 0⟩] scope gpos) 0 (.ref it) .none cenv))) := I3.bare.push rfl
    have T' : Turn (GCx X s3 H3 cenv fp (GA X.A elt tg iter scope gpos it cenv)).prog (GCx X s3 H3 cenv fp (GA X.A elt tg iter scope gpos it cenv)).w (GCx X s3 H3 cenv fp (GA X.A elt tg iter scope gpos it cenv)).K tg J fp it tn := T
    have hx := hQ (GCx X s3 H3 cenv fp (GA X.A elt tg iter scope gpos it cenv)) h'.objs.size s3.gens.size [(h'.objs.size, og)] (m0 + 1) { s3 with
            gens := s3.gens.push (.fresh (.compStart (.GeneratorExp elt [⟨tg, iter, [], 0⟩] scope gpos) 0 (.ref it) .none cenv)),
            toks := s3.toks + 1 + 1 + 1,
            heap := h'.push og } rfl rfl (fun σ H s I' => isg _ (I'.pin (h'.objs.size, og) (by simp)).1) (fun σ' H' s' I' => ?_) ⟨isg _ gog, (start { s3 with gens := s3.gens.push (.fresh (.compStart (.GeneratorExp elt [⟨tg, iter, [], 0⟩] scope gpos) 0 (.ref it) .none cenv)), toks := s3.toks + 1 + 1 + 1, heap := h'.push og } rfl rfl bs5).nolimit, bs5, _, Array.getElem?_push_size .., rfl, ?_⟩
    · exact hx
    · exact I3.call' (ch := fp) I'.os I'.base I'.hok I'.bare fun b hb => ⟨(f3 b hb).1.2.2.2.1, (f3 b hb).1.2.1, (f3 b hb).1.2.2.2.2.1, (f3 b hb).1.2.2.2.2.2⟩
    · have hag' : ∀ b ∈ fp, h'.objs.size ≠ b := fun b hb z => absurd (Nat.lt_trans (f3 b hb).2 hag) (by rw [z]; exact Nat.lt_irrefl _)
      have st5 : tn 0 (h'.push og) := T.keep _ _ _ st3 fun b hb o e => kp5 b o e
      have n5 : ∀ b ∈ fp, H3 b = none := fun b hb => (f3 b hb).1.1
      refine seg_begin (X' := GCx X s3 H3 cenv fp (GA X.A elt tg iter scope gpos it cenv)) T' (i := 0) st5 ?_
      exact seg_turns (X' := GCx X s3 H3 cenv fp (GA X.A elt tg iter scope gpos it cenv)) (σ := σ) (vs := own.map (·.2)) rfl hc rfl rfl rfl (by show cenv.scope.isCoroutine = false; rw [← hce]; exact hco) T' pg pe hag' turn m0 (m0 + 1) 0 _ _ H3 (Nat.lt_succ_self _) (start _ rfl rfl (bare_set (s := { s3 with gens := s3.gens.push (.fresh (.compStart (.GeneratorExp elt [⟨tg, iter, [], 0⟩] scope gpos) 0 (.ref it) .none cenv)), toks := s3.toks + 1 + 1 + 1, heap := h'.push og }) bs5 rfl)) st5 n5 w0
  cases hf : codeAmong gpos ps.toList with
  | none =>
    refine wpAny_genexprCodeX hcode (cd.code hPs ht) (cd.tab hPs) hf fun c' h' tk hx hge hlt hco' _ htab' _ => ?_
    obtain ⟨o1, vs, f1, tf, fl, tg', inF, tx, tt, op, _, _, _, _, _, _, _, _, _, htr, _⟩ := hco'
    exact cont _ h' tk _ hx (Nat.le_trans hge (Nat.le_of_lt hlt)) htab'.2 ⟨_, rfl⟩ htr
  | some cv =>
    refine wpAny_genexprCode_hit hcode (cd.code hPs ht) hf ?_
    exact cont cv s2.heap s2.toks ps (Heap.ExtBut.refl _ _) (Nat.le_refl _) hPs ⟨#[], by simp⟩ ht

theorem pe_any {P c : Addr} {elt tg iter : Expr} {scope : Scope} {p pos gpos : Pos} {own : List (Str × Nat)} {wi : TI} {g : TG} {te : TE} (hh : X.A.handled = none) (hroom : X.A.depth < recursionLimit)
    (hgl : Gl X "any") (hm : X.mg "any" = none) (hc : X.calm = true) (hN : X.N.Nodup) (TB : TabB X.base X.mg c P) (hcode : X.env.code = .ref c) (hi : PI X tg iter wi) (ok : BlkOk X.N X.env.scope scope own) (hco : scope.isCoroutine = false) (hcell : ∀ y ∈ scope.names, y.2 ≠ .cell) (hdot : scope.names.lookup (".0" : Str) = some NameKind.local)
    (hg : ∀ (s : Shared) (H : Hp) (C : Addr) (code : Value) (cl : List (Str × Addr)) (fp : List Addr) (A' : Around), GAo X.A A' → PG (GCx X s H (genEnv scope cl C code builtinsNs X.env) fp A') tg g)
    (he : ∀ (s : Shared) (H : Hp) (C : Addr) (code : Value) (cl : List (Str × Addr)) (fp : List Addr) (A' : Around), GAo X.A A' → PE (GCx X s H (genEnv scope cl C code builtinsNs X.env) fp A') elt te)
    (hs : ∀ v, genFold iter X.env v = pure v)
    (hse : starEach [.GeneratorExp elt [⟨tg, iter, [], 0⟩] scope gpos] X.env = (false, eval (.GeneratorExp elt [⟨tg, iter, [], 0⟩] scope gpos) X.env) :: starEach [] X.env := by rfl) :
    PE X (.Call (.Name "any" p) [.GeneratorExp elt [⟨tg, iter, [], 0⟩] scope gpos] [] pos) (tGx X.K P false wi g te (own.map (·.2))) := by
  refine ⟨fun pins s σ H Q I h => ?_⟩
  refine wpAny_Call_Name_kw (ld_blt I hgl hm boot_any ?_)
  refine PyProof.Rows.callWith_builtin1 ?_ hse (by rfl)
  rw [hse]
  show wpAny _ _ (spliced ((false, eval (.GeneratorExp elt [⟨tg, iter, [], 0⟩] scope gpos) X.env) :: backTo pos (starEach [] X.env))) _ _ s
  refine Calls.spliced_cons (gx_make (isAll := false) (Q := Q) hh hroom hc hN TB hcode hi ok hco hcell hdot hg he hs I h fun X' ag gn pn n s5 e1 e2 hpn hback S => ?_)
  refine Calls.spliced_nil ?_
  refine call_function_tree F.kind_any F.plain_any F.entry_any (F.args_any1 _) ?_
  unfold Builtin.«any»
  refine wpAny_bind (m := oneArg "any" _) (wpAny_pure ?_)
  refine wpAny_bind (wpAny_pyIter_gen S.isg ?_)
  refine wpAny_pure ⟨plainId_quiet F.plain_any_loop _, ?_⟩
  have hl := any_loop (X' := X') (pn := pn) (Qe := Q (.bl false)) (Qx := Q (.bl true)) (A := X.A) (R := fun r s' => ∃ b, r = .ok (.ret (.bool b)) ∧ EP X pins σ Q (.bool b) s') hh hroom hpn
    (fun s' ⟨H4, σ4, I4, q4⟩ => ⟨false, rfl, .bl false, H4, hback _ _ _ I4, rfl, q4⟩) (fun s' ⟨H4, σ4, I4, q4⟩ => ⟨true, rfl, .bl true, H4, hback _ _ _ I4, rfl, q4⟩) n s5 S
  rw [e1, e2] at hl
  exact codeAny_mono hl fun r s' ⟨b, er, q⟩ => by
    subst er
    exact q
theorem boot_all : bootBuiltins "all" = some (.builtin "all") := by decide +kernel
theorem pe_all {P c : Addr} {elt tg iter : Expr} {scope : Scope} {p pos gpos : Pos} {own : List (Str × Nat)} {wi : TI} {g : TG} {te : TE} (hh : X.A.handled = none) (hroom : X.A.depth < recursionLimit)
    (hgl : Gl X "all") (hm : X.mg "all" = none) (hc : X.calm = true) (hN : X.N.Nodup) (TB : TabB X.base X.mg c P) (hcode : X.env.code = .ref c) (hi : PI X tg iter wi) (ok : BlkOk X.N X.env.scope scope own) (hco : scope.isCoroutine = false) (hcell : ∀ y ∈ scope.names, y.2 ≠ .cell) (hdot : scope.names.lookup (".0" : Str) = some NameKind.local)
    (hg : ∀ (s : Shared) (H : Hp) (C : Addr) (code : Value) (cl : List (Str × Addr)) (fp : List Addr) (A' : Around), GAo X.A A' → PG (GCx X s H (genEnv scope cl C code builtinsNs X.env) fp A') tg g)
    (he : ∀ (s : Shared) (H : Hp) (C : Addr) (code : Value) (cl : List (Str × Addr)) (fp : List Addr) (A' : Around), GAo X.A A' → PE (GCx X s H (genEnv scope cl C code builtinsNs X.env) fp A') elt te)
    (hs : ∀ v, genFold iter X.env v = pure v)
    (hse : starEach [.GeneratorExp elt [⟨tg, iter, [], 0⟩] scope gpos] X.env = (false, eval (.GeneratorExp elt [⟨tg, iter, [], 0⟩] scope gpos) X.env) :: starEach [] X.env := by rfl) :
    PE X (.Call (.Name "all" p) [.GeneratorExp elt [⟨tg, iter, [], 0⟩] scope gpos] [] pos) (tGx X.K P true wi g te (own.map (·.2))) := by
  refine ⟨fun pins s σ H Q I h => ?_⟩
  refine wpAny_Call_Name_kw (ld_blt I hgl hm boot_all ?_)
  refine PyProof.Rows.callWith_builtin1 ?_ hse (by rfl)
  rw [hse]
  show wpAny _ _ (spliced ((false, eval (.GeneratorExp elt [⟨tg, iter, [], 0⟩] scope gpos) X.env) :: backTo pos (starEach [] X.env))) _ _ s
  refine Calls.spliced_cons (gx_make (isAll := true) (Q := Q) hh hroom hc hN TB hcode hi ok hco hcell hdot hg he hs I h fun X' ag gn pn n s5 e1 e2 hpn hback S => ?_)
  refine Calls.spliced_nil ?_
  refine call_function_tree F.kind_all F.plain_all F.entry_all (F.args_all1 _) ?_
  unfold Builtin.«all»
  refine wpAny_bind (m := oneArg "all" _) (wpAny_pure ?_)
  refine wpAny_bind (wpAny_pyIter_gen S.isg ?_)
  refine wpAny_pure ⟨plainId_quiet F.plain_all_loop _, ?_⟩
  have hl := all_loop (X' := X') (pn := pn) (Qe := Q (.bl true)) (Qx := Q (.bl false)) (A := X.A) (R := fun r s' => ∃ b, r = .ok (.ret (.bool b)) ∧ EP X pins σ Q (.bool b) s') hh hroom hpn
    (fun s' ⟨H4, σ4, I4, q4⟩ => ⟨true, rfl, .bl true, H4, hback _ _ _ I4, rfl, q4⟩) (fun s' ⟨H4, σ4, I4, q4⟩ => ⟨false, rfl, .bl false, H4, hback _ _ _ I4, rfl, q4⟩) n s5 S
  rw [e1, e2] at hl
  exact codeAny_mono hl fun r s' ⟨b, er, q⟩ => by
    subst er
    exact q
end
end RG

set_option maxRecDepth 100000
set_option maxHeartbeats 4000000

namespace RG
open PySem PySem.Spec PyProof.Rows L2
end RG

set_option maxRecDepth 100000
set_option maxHeartbeats 4000000

namespace RT
open PySem PySem.Spec PyProof.Rows L2

inductive Dt where
  | non | bl (b : Bool) | int (i : Int) | str (s : Str) | tup (ds : List Dt) | lst (ds : List Dt)

mutual
def Rep (K : PySem.W.Frag) (F : Hp) : Dt → V → Prop
  | .non, v => v = .non
  | .bl b, v => v = .bl b
  | .int i, v => v = .int i
  | .str s, v => v = .str s
  | .tup ds, v => ∃ a vs, v = .ref a ∧ SqT K F a vs ∧ Reps K F ds vs
  | .lst ds, v => ∃ a vs, v = .ref a ∧ Rd F a (.lst vs) ∧ Reps K F ds vs
def Reps (K : PySem.W.Frag) (F : Hp) : List Dt → List V → Prop
  | [], vs => vs = []
  | d :: ds, vs => ∃ v r, vs = v :: r ∧ Rep K F d v ∧ Reps K F ds r
end

theorem seqT_mono {K : PySem.W.Frag} {H H' : Hp} {a : Addr} {xs : List V} (e : Same H H') (h : SqT K H a xs) : SqT K H' a xs := by
  rcases h with (h | ⟨o, h⟩) | h
  · exact .inl (.inl (e _ _ h))
  · exact .inl (.inr ⟨o, e _ _ h⟩)
  · exact .inr h
theorem rd_mono {H H' : Hp} {a : Addr} {u : HO} (e : Same H H') (h : Rd H a u) : Rd H' a u := by
  rcases h with h | ⟨o, h⟩
  · exact .inl (e _ _ h)
  · exact .inr ⟨o, e _ _ h⟩
section
variable {K : PySem.W.Frag} {F F' : Hp}
mutual
theorem Rep.mono (e : Same F F') : ∀ {d : Dt} {v : V}, Rep K F d v → Rep K F' d v
  | .non, _, h => by simpa only [Rep] using h
  | .bl _, _, h => by simpa only [Rep] using h
  | .int _, _, h => by simpa only [Rep] using h
  | .str _, _, h => by simpa only [Rep] using h
  | .tup ds, v, h => by
    simp only [Rep] at h ⊢
    obtain ⟨a, vs, e1, s, r⟩ := h
    exact ⟨a, vs, e1, seqT_mono e s, Reps.mono e r⟩
  | .lst ds, v, h => by
    simp only [Rep] at h ⊢
    obtain ⟨a, vs, e1, s, r⟩ := h
    exact ⟨a, vs, e1, rd_mono e s, Reps.mono e r⟩
theorem Reps.mono (e : Same F F') : ∀ {ds : List Dt} {vs : List V}, Reps K F ds vs → Reps K F' ds vs
  | [], _, h => by simpa only [Reps] using h
  | d :: ds, vs, h => by
    simp only [Reps] at h ⊢
    obtain ⟨v, r, e1, h1, h2⟩ := h
    exact ⟨v, r, e1, Rep.mono e h1, Reps.mono e h2⟩
end
theorem Reps.nil : Reps K F [] [] := by simp only [Reps]
theorem Reps.cons {d : Dt} {v : V} {ds : List Dt} {vs : List V} (h : Rep K F d v) (t : Reps K F ds vs) : Reps K F (d :: ds) (v :: vs) := by
  simp only [Reps]
  exact ⟨v, vs, rfl, h, t⟩
theorem Reps.length : ∀ {ds : List Dt} {vs : List V}, Reps K F ds vs → ds.length = vs.length
  | [], vs, h => by
    simp only [Reps] at h
    rw [h]
    rfl
  | d :: ds, vs, h => by
    simp only [Reps] at h
    obtain ⟨v, r, rfl, _, h2⟩ := h
    rw [List.length_cons, List.length_cons, Reps.length h2]
theorem Reps.append : ∀ {ds es : List Dt} {vs us : List V}, Reps K F ds vs → Reps K F es us → Reps K F (ds ++ es) (vs ++ us)
  | [], es, vs, us, h, h' => by
    simp only [Reps] at h
    rw [h]
    exact h'
  | d :: ds, es, vs, us, h, h' => by
    simp only [Reps] at h
    obtain ⟨v, r, rfl, h1, h2⟩ := h
    exact .cons h1 (Reps.append h2 h')
theorem Reps.get : ∀ {ds : List Dt} {vs : List V} {i : Nat} {d : Dt}, Reps K F ds vs → ds[i]? = some d → ∃ v, vs[i]? = some v ∧ Rep K F d v
  | [], _, _, _, _, e => by simp at e
  | d :: ds, vs, 0, d', h, e => by
    simp only [Reps] at h
    obtain ⟨v, r, rfl, h1, h2⟩ := h
    cases e
    exact ⟨v, rfl, h1⟩
  | d :: ds, vs, i + 1, d', h, e => by
    simp only [Reps] at h
    obtain ⟨v, r, rfl, h1, h2⟩ := h
    exact Reps.get (i := i) h2 e
theorem Reps.take : ∀ {ds : List Dt} {vs : List V} (n : Nat), Reps K F ds vs → Reps K F (ds.take n) (vs.take n)
  | _, _, 0, _ => by
    rw [List.take_zero, List.take_zero]
    exact .nil
  | [], vs, n + 1, h => by
    simp only [Reps] at h
    rw [h]
    exact .nil
  | d :: ds, vs, n + 1, h => by
    simp only [Reps] at h
    obtain ⟨v, r, rfl, h1, h2⟩ := h
    exact .cons h1 (Reps.take n h2)
theorem Reps.drop : ∀ {ds : List Dt} {vs : List V} (n : Nat), Reps K F ds vs → Reps K F (ds.drop n) (vs.drop n)
  | _, _, 0, h => h
  | [], vs, n + 1, h => by
    simp only [Reps] at h
    rw [h]
    exact .nil
  | d :: ds, vs, n + 1, h => by
    simp only [Reps] at h
    obtain ⟨v, r, rfl, h1, h2⟩ := h
    exact Reps.drop n h2
theorem Reps.set {x : Dt} {u : V} (hx : Rep K F x u) : ∀ {ds : List Dt} {vs : List V} (n : Nat), Reps K F ds vs → Reps K F (ds.set n x) (vs.set n u)
  | [], vs, n, h => by
    simp only [Reps] at h
    rw [h]
    exact .nil
  | d :: ds, vs, 0, h => by
    simp only [Reps] at h
    obtain ⟨v, r, rfl, h1, h2⟩ := h
    exact .cons hx h2
  | d :: ds, vs, n + 1, h => by
    simp only [Reps] at h
    obtain ⟨v, r, rfl, h1, h2⟩ := h
    exact .cons h1 (Reps.set hx n h2)
end

inductive Vl where
  | d (x : Dt) | c (k : Nat)
inductive Cell where
  | lst (xs : List Dt) | dead
structure M where
  sl : List (Option Vl)
  st : List Cell
def RepV (K : PySem.W.Frag) (F : Hp) (A : List Addr) : Vl → V → Prop
  | .d x, v => Rep K F x v
  | .c k, v => ∃ a, A[k]? = some a ∧ v = .ref a
theorem RepV.mono {K : PySem.W.Frag} {F F' : Hp} {A A' : List Addr} (e : Same F F') (p : A <+: A') : ∀ {x : Vl} {v : V}, RepV K F A x v → RepV K F' A' x v
  | .d x, v, h => Rep.mono e h
  | .c k, v, h => by
    obtain ⟨a, h1, h2⟩ := h
    obtain ⟨t, rfl⟩ := p
    obtain ⟨hk, _⟩ := List.getElem?_eq_some_iff.mp h1
    exact ⟨a, by rw [List.getElem?_append_left hk]; exact h1, h2⟩

def gdefs : List (Str × Option Str) := [("triple_weights", none), ("is_certificate", none), ("contains_ray", none), ("is_empty", none), ("is_bounded", none), ("natural_of", none), ("fraction_of", none), ("parse_train", none)]
def tabK (K : PySem.W.Frag) (p : Str × Option Str) : Option (Addr × Addr) := match K.lookup (He.fAd K p) with
  | some ⟨_, _, .func fd, _⟩ => (match fd.code with
    | .ref c => (match K.lookup c with
      | some ⟨_, _, .fields vs, _⟩ => (match vs.getD 11 .none with
        | .ref P => some (c, P)
        | _ => none)
      | _ => none)
    | _ => none)
  | _ => none
def tabsK (K : PySem.W.Frag) : List (Addr × Addr) := gdefs.filterMap (tabK K)
theorem tab_upd {H : Hp} {P p : Addr} {o : HO} (t : GxR.TabG H P) (n : H p = none) : GxR.TabG (upd H p o) P := by
  obtain ⟨ps, h, ok⟩ := t
  exact ⟨ps, by rw [upd_ne (ne_of_none h n)]; exact h, ok⟩
theorem tab_ne {H : Hp} {P a : Addr} {vs : List V} (t : GxR.TabG H P) (n : H a = some (.lst vs)) : P ≠ a := fun z => by
  obtain ⟨ps, h, ok⟩ := t
  rw [z, n] at h
  cases h
theorem tab_lst {H : Hp} {P a : Addr} {vs : List V} {o : HO} (t : GxR.TabG H P) (n : H a = some (.lst vs)) : GxR.TabG (upd H a o) P := by
  have ne := tab_ne t n
  obtain ⟨ps, h, ok⟩ := t
  exact ⟨ps, by rw [upd_ne ne]; exact h, ok⟩
theorem tab_some {H : Hp} {P p : Addr} (t : GxR.TabG H P) (n : H p = none) : P ≠ p := fun z => by
  obtain ⟨ps, h, ok⟩ := t
  rw [z, n] at h
  cases h
def ObjK : HO → Prop
  | .ins _ _ _ => True
  | .xd _ => True
  | _ => False
def SameO (W W' : Hp) : Prop := ∀ a o, ObjK o → W a = some o → W' a = some o
theorem SameO.refl (W : Hp) : SameO W W := fun _ _ _ e => e
theorem SameO.of {W W' : Hp} (h : Same W W') : SameO W W' := fun a o _ e => h a o e
theorem SameO.unl {W : Hp} {D : Addr} {us : List V} : SameO (upd W D (.lst us)) W := fun a o k e => by
  by_cases hb : a = D
  · rw [hb, upd_same] at e
    cases e
    exact k.elim
  · rw [upd_ne hb] at e
    exact e
theorem SameO.ull {W : Hp} {D : Addr} {us ws : List V} : SameO (upd W D (.lst us)) (upd W D (.lst ws)) := fun a o k e => by
  by_cases hb : a = D
  · rw [hb, upd_same] at e
    cases e
    exact k.elim
  · rw [upd_ne hb] at e ⊢
    exact e
class Ghost where
  p : Hp → Hp → List Addr → Prop
  mono : ∀ {W W' F F' : Hp} {A A' : List Addr}, p W F A → SameO W W' → Same F F' → A <+: A' → p W' F' A'
instance Ghost.tt : Ghost := ⟨fun _ _ _ => True, fun _ _ _ _ => True.intro⟩
variable [Gh : Ghost]
structure Good (K : PySem.W.Frag) (W F : Hp) (A : List Addr) (m : M) (σ : L2.St) (H : Hp) : Prop where
  ext : Same F H
  hid : Same W H
  dj : ∀ a o, W a = some o → F a = none
  slen : m.sl.length = σ.length
  sl : ∀ (i : Nat) (v : Vl), m.sl[i]? = some (some v) → ∃ u : V, σ[i]? = some (some u) ∧ RepV K F A v u
  len : A.length = m.st.length
  st : ∀ (k : Nat) (xs : List Dt), m.st[k]? = some (Cell.lst xs) → ∃ (a : Addr) (vs : List V), A[k]? = some a ∧ H a = some (.lst vs) ∧ Reps K F xs vs ∧ F a = none ∧ W a = none
  nd : ∀ (j k : Nat) (xs ys : List Dt) (a : Addr), m.st[j]? = some (.lst xs) → m.st[k]? = some (.lst ys) → A[j]? = some a → A[k]? = some a → j = k
  tb : ∀ q ∈ tabsK K, GxR.TabG H q.2 ∧ F q.2 = none ∧ W q.2 = none
  gh : Ghost.p W F A

abbrev DE := M → (Vl → M → Prop) → Prop
abbrev DA := M → (List Vl → M → Prop) → Prop
abbrev DT := M → (Bool → M → Prop) → Prop
structure DEnds where
  nx : M → Prop
  rt : Vl → M → Prop
  bk : M → Prop
  ct : M → Prop
abbrev DS := DEnds → M → Prop

def After (K : PySem.W.Frag) (W F : Hp) (A : List Addr) (σ : L2.St) {α : Type} (Q : α → M → Prop) (R : Hp → List Addr → α → Hp → Prop) : Prop :=
  ∀ F' A' x m' H', Same F F' → A <+: A' → Good K W F' A' m' σ H' → Q x m' → R F' A' x H'
def lift (K : PySem.W.Frag) (t : DE) : TE := fun σ H Q => ∃ W F A m Qd, Good K W F A m σ H ∧ t m Qd ∧
  After K W F A σ Qd fun F' A' v H' => ∀ u, RepV K F' A' v u → Q u H'
def liftT (K : PySem.W.Frag) (t : DT) : TT := fun σ H Q => ∃ W F A m Qd, Good K W F A m σ H ∧ t m Qd ∧
  After K W F A σ Qd fun _ _ b H' => Q b H'
def RepVs (K : PySem.W.Frag) (F : Hp) (A : List Addr) : List Vl → List V → Prop
  | [], us => us = []
  | v :: vs, us => ∃ u r, us = u :: r ∧ RepV K F A v u ∧ RepVs K F A vs r
theorem RepVs.mono {K : PySem.W.Frag} {F F' : Hp} {A A' : List Addr} (e : Same F F') (p : A <+: A') : ∀ {x : List Vl} {v : List V}, RepVs K F A x v → RepVs K F' A' x v
  | [], _, h => h
  | _ :: _, _, h => by
    obtain ⟨u, r, e1, h1, h2⟩ := h
    exact ⟨u, r, e1, RepV.mono e p h1, RepVs.mono e p h2⟩
theorem RepVs.length {K : PySem.W.Frag} {F : Hp} {A : List Addr} : ∀ {x : List Vl} {v : List V}, RepVs K F A x v → x.length = v.length
  | [], _, h => by
    have e := h
    simp only [RepVs] at e
    rw [e]
    rfl
  | _ :: _, _, h => by
    obtain ⟨u, r, rfl, h1, h2⟩ := h
    rw [List.length_cons, List.length_cons, RepVs.length h2]
def liftA (K : PySem.W.Frag) (t : DA) : TA := fun σ H Q => ∃ W F A m Qd, Good K W F A m σ H ∧ t m Qd ∧
  After K W F A σ Qd fun F' A' vs H' => ∀ us, RepVs K F' A' vs us → Q us H'
structure Conts (K : PySem.W.Frag) (W F : Hp) (A : List Addr) (E : DEnds) (D : Ends) : Prop where
  nx : ∀ F' A' m' σ' H', Same F F' → A <+: A' → Good K W F' A' m' σ' H' → E.nx m' → D.nx σ' H'
  rt : ∀ F' A' m' σ' H' v u, Same F F' → A <+: A' → Good K W F' A' m' σ' H' → RepV K F' A' v u → E.rt v m' → D.rt u H'
  bk : ∀ F' A' m' σ' H', Same F F' → A <+: A' → Good K W F' A' m' σ' H' → E.bk m' → D.bk σ' H'
  ct : ∀ F' A' m' σ' H', Same F F' → A <+: A' → Good K W F' A' m' σ' H' → E.ct m' → D.ct σ' H'
theorem Conts.mono {K : PySem.W.Frag} {W F F' : Hp} {A A' : List Addr} {E : DEnds} {D : Ends} (c : Conts K W F A E D) (s : Same F F') (p : A <+: A') : Conts K W F' A' E D :=
  ⟨fun F2 A2 m σ H s2 p2 => c.nx F2 A2 m σ H (s.trans s2) (p.trans p2), fun F2 A2 m σ H v u s2 p2 => c.rt F2 A2 m σ H v u (s.trans s2) (p.trans p2),
    fun F2 A2 m σ H s2 p2 => c.bk F2 A2 m σ H (s.trans s2) (p.trans p2), fun F2 A2 m σ H s2 p2 => c.ct F2 A2 m σ H (s.trans s2) (p.trans p2)⟩
def liftS (K : PySem.W.Frag) (t : DS) : TS := fun D σ H => ∃ W F A m E, Good K W F A m σ H ∧ t E m ∧ Conts K W F A E D

theorem _root_.L2.PE.imp {X : Cx} {e : Expr} {t t' : TE} (h : PE X e t) (f : ∀ σ H Q, t' σ H Q → t σ H Q) : PE X e t' := ⟨fun pins s σ H Q I q => h.run pins s σ H Q I (f _ _ _ q)⟩
theorem _root_.L2.PT.imp {X : Cx} {e : Expr} {t t' : TT} (h : PT X e t) (f : ∀ σ H Q, t' σ H Q → t σ H Q) : PT X e t' := ⟨fun pins s σ H Q I q => h.run pins s σ H Q I (f _ _ _ q)⟩
theorem _root_.L2.PW.imp {X : Cx} {e : Expr} {t t' : TT} (h : PW X e t) (f : ∀ σ H Q, t' σ H Q → t σ H Q) : PW X e t' := ⟨fun w pins s σ H Q I q => h.run w pins s σ H Q I (f _ _ _ q)⟩
theorem _root_.L2.PA.imp {X : Cx} {e : List Expr} {t t' : TA} (h : PA X e t) (f : ∀ σ H Q, t' σ H Q → t σ H Q) : PA X e t' := ⟨fun p pins s σ H Q I q => h.run p pins s σ H Q I (f _ _ _ q)⟩
theorem _root_.L2.PS.imp {X : Cx} {e : Stmt} {t t' : TS} (h : PS X e t) (f : ∀ D σ H, t' D σ H → t D σ H) : PS X e t' := ⟨fun pins s σ H D I q => h.run pins s σ H D I (f _ _ _ q)⟩
theorem _root_.L2.PSs.imp {X : Cx} {e : List Stmt} {t t' : TS} (h : PSs X e t) (f : ∀ D σ H, t' D σ H → t D σ H) : PSs X e t' := ⟨fun pins s σ H D I q => h.run pins s σ H D I (f _ _ _ q)⟩

abbrev JE (X : Cx) (e : Expr) (t : DE) : Prop := PE X e (lift X.K t)
abbrev JT (X : Cx) (e : Expr) (t : DT) : Prop := PT X e (liftT X.K t)
abbrev JW (X : Cx) (e : Expr) (t : DT) : Prop := PW X e (liftT X.K t)
abbrev JA (X : Cx) (e : List Expr) (t : DA) : Prop := PA X e (liftA X.K t)
abbrev JS (X : Cx) (e : Stmt) (t : DS) : Prop := PS X e (liftS X.K t)
abbrev JSs (X : Cx) (e : List Stmt) (t : DS) : Prop := PSs X e (liftS X.K t)

section
variable {K : PySem.W.Frag} {W F F' : Hp} {A A' : List Addr} {m : M} {σ : L2.St} {H H' : Hp}
theorem pre_refl {α : Type} (l : List α) : l <+: l := ⟨[], List.append_nil l⟩
theorem pre_trans {α : Type} {a b c : List α} (h : a <+: b) (h' : b <+: c) : a <+: c := List.IsPrefix.trans h h'
theorem same_upd {p : Addr} {o : HO} (h : H p = none) : Same H (upd H p o) := fun b x e => by
  rw [upd_ne (ne_of_none e h)]
  exact e
theorem same_upd2 {p : Addr} {o : HO} (e : Same F H) : Same (upd F p o) (upd H p o) := fun b x q => by
  by_cases hb : b = p
  · subst hb
    rw [upd_same] at q ⊢
    exact q
  · rw [upd_ne hb] at q ⊢
    exact e _ _ q
theorem Good.laid {p : Addr} {o : HO} (G : Good K W F A m σ H) (n : H p = none) : Good K W (upd F p o) A m σ (upd H p o) := by
  have nF : F p = none := G.ext.free n
  have s : Same F (upd F p o) := same_upd nF
  refine ⟨same_upd2 G.ext, G.hid.trans (same_upd n), fun b x e => by rw [upd_ne (ne_of_none (G.hid _ _ e) n)]; exact G.dj b x e, G.slen, fun i v e => ?_, G.len, fun k xs e => ?_, G.nd, fun q hq => ?_, Ghost.mono G.gh (SameO.refl _) s (pre_refl _)⟩
  · obtain ⟨u, h1, h2⟩ := G.sl i v e
    exact ⟨u, h1, RepV.mono s (pre_refl _) h2⟩
  · obtain ⟨a, vs, h1, h2, h3, h4, h5⟩ := G.st k xs e
    have ne : a ≠ p := ne_of_none h2 n
    exact ⟨a, vs, h1, by rw [upd_ne ne]; exact h2, Reps.mono s h3, by rw [upd_ne ne]; exact h4, h5⟩
  · obtain ⟨t1, t2, t3⟩ := G.tb q hq
    exact ⟨tab_upd t1 n, by rw [upd_ne (tab_some t1 n)]; exact t2, t3⟩
theorem Good.own {p : Addr} {xs : List Dt} {vs : List V} (G : Good K W F A m σ H) (n : H p = none) (r : Reps K F xs vs) : Good K W F (A ++ [p]) ⟨m.sl, m.st ++ [.lst xs]⟩ σ (upd H p (.lst vs)) := by
  have pr : A <+: A ++ [p] := ⟨[p], rfl⟩
  have at_ : ∀ k, k < m.st.length → (A ++ [p])[k]? = A[k]? := fun k hk => List.getElem?_append_left (by rw [G.len]; exact hk)
  have lst_ : (A ++ [p])[m.st.length]? = some p := by rw [← G.len]; simp
  have old : ∀ k, k < m.st.length → (m.st ++ [Cell.lst xs])[k]? = m.st[k]? := fun k hk => List.getElem?_append_left hk
  have new : ∀ k c, ¬ k < m.st.length → (m.st ++ [Cell.lst xs])[k]? = some c → k = m.st.length ∧ c = .lst xs := fun k c hk e => by
    have hk2 := (List.getElem?_eq_some_iff.mp e).1
    rw [List.length_append, List.length_singleton] at hk2
    have ek : k = m.st.length := by omega
    subst ek
    rw [List.getElem?_append_right (Nat.le_refl _), Nat.sub_self] at e
    exact ⟨rfl, (Option.some.inj e).symm⟩
  refine ⟨G.ext.trans (same_upd n), G.hid.trans (same_upd n), G.dj, G.slen, fun i v e => ?_, by simp [G.len], fun k ys e => ?_, fun j k ys zs a e1 e2 h1 h2 => ?_, fun q hq => ⟨tab_upd (G.tb q hq).1 n, (G.tb q hq).2⟩, Ghost.mono G.gh (SameO.refl _) (Same.refl _) pr⟩
  · obtain ⟨u, h1, h2⟩ := G.sl i v e
    exact ⟨u, h1, RepV.mono (Same.refl _) pr h2⟩
  · by_cases hk : k < m.st.length
    · have e' : m.st[k]? = some (.lst ys) := (old k hk).symm.trans e
      obtain ⟨a, ws, h1, h2, h3, h4⟩ := G.st k ys e'
      exact ⟨a, ws, (at_ k hk).trans h1, by rw [upd_ne (ne_of_none h2 n)]; exact h2, h3, h4⟩
    · obtain ⟨ek, ec⟩ := new k _ hk e
      subst ek
      cases ec
      exact ⟨p, vs, lst_, upd_same, r, G.ext.free n, G.hid.free n⟩
  · have nA : ∀ k zs, k < m.st.length → (m.st ++ [Cell.lst xs])[k]? = some (.lst zs) → (A ++ [p])[k]? = some p → False := fun k zs hk e h => by
      obtain ⟨a', _, q1, q2, _⟩ := G.st k zs ((old k hk).symm.trans e)
      rw [at_ k hk, q1] at h
      cases h
      rw [n] at q2
      cases q2
    by_cases hj : j < m.st.length
    · by_cases hk : k < m.st.length
      · exact G.nd j k ys zs a ((old j hj).symm.trans e1) ((old k hk).symm.trans e2) ((at_ j hj).symm.trans h1) ((at_ k hk).symm.trans h2)
      · obtain ⟨ek, _⟩ := new k _ hk e2
        subst ek
        rw [lst_] at h2
        cases h2
        exact (nA j ys hj e1 h1).elim
    · obtain ⟨ej, _⟩ := new j _ hj e1
      subst ej
      by_cases hk : k < m.st.length
      · rw [lst_] at h1
        cases h1
        exact (nA k zs hk e2 h2).elim
      · obtain ⟨ek, _⟩ := new k _ hk e2
        exact ek.symm
theorem Good.store {i : Nat} {v : Vl} {u : V} (G : Good K W F A m σ H) (r : RepV K F A v u) : Good K W F A ⟨m.sl.set i (some v), m.st⟩ (σ.set i (some u)) H := by
  refine ⟨G.ext, G.hid, G.dj, by rw [List.length_set, List.length_set, G.slen], fun j w e => ?_, G.len, G.st, G.nd, G.tb, G.gh⟩
  have e' : (m.sl.set i (some v))[j]? = some (some w) := e
  rw [List.getElem?_set] at e' ⊢
  by_cases hj : i = j
  · rw [if_pos hj] at e' ⊢
    by_cases hl : i < m.sl.length
    · rw [if_pos hl] at e'
      rw [if_pos (by rw [← G.slen]; exact hl)]
      cases e'
      exact ⟨u, rfl, r⟩
    · rw [if_neg hl] at e'
      cases e'
  · rw [if_neg hj] at e' ⊢
    exact G.sl j w e'
theorem Good.write {k : Nat} {xs ys : List Dt} {a : Addr} {ws : List V} (G : Good K W F A m σ H) (e : m.st[k]? = some (.lst xs)) (ha : A[k]? = some a) (r : Reps K F ys ws) :
    Good K W F A ⟨m.sl, m.st.set k (.lst ys)⟩ σ (upd H a (.lst ws)) := by
  obtain ⟨a', vs, h1, h2, h3, h4, h5⟩ := G.st k xs e
  rw [ha] at h1
  cases h1
  have hk : k < m.st.length := (List.getElem?_eq_some_iff.mp e).1
  have sp : ∀ j c, (m.st.set k (Cell.lst ys))[j]? = some c → (j = k ∧ c = .lst ys) ∨ (j ≠ k ∧ m.st[j]? = some c) := fun j c q => by
    rw [List.getElem?_set] at q
    by_cases hj : k = j
    · rw [if_pos hj, if_pos hk] at q
      exact .inl ⟨hj.symm, (Option.some.inj q).symm⟩
    · rw [if_neg hj] at q
      exact .inr ⟨fun z => hj z.symm, q⟩
  refine ⟨fun b x q => ?_, fun b x q => ?_, G.dj, G.slen, G.sl, by rw [List.length_set]; exact G.len, fun j zs q => ?_, fun i j zs ts b q1 q2 p1 p2 => ?_, fun q hq => ⟨tab_lst (G.tb q hq).1 h2, (G.tb q hq).2⟩, G.gh⟩
  · have nb : b ≠ a := fun z => by
      rw [z, h4] at q
      cases q
    rw [upd_ne nb]
    exact G.ext _ _ q
  · have nb : b ≠ a := fun z => by
      rw [z, h5] at q
      cases q
    rw [upd_ne nb]
    exact G.hid _ _ q
  · rcases sp j _ q with ⟨rfl, ec⟩ | ⟨hj, q'⟩
    · cases ec
      exact ⟨a, ws, ha, upd_same, r, h4, h5⟩
    · obtain ⟨b, us, p1, p2, p3, p4⟩ := G.st j zs q'
      have nb : b ≠ a := fun z => hj (G.nd j k zs xs a q' e (by rw [← z]; exact p1) ha)
      exact ⟨b, us, p1, by rw [upd_ne nb]; exact p2, p3, p4⟩
  · have i' : ∃ zs', m.st[i]? = some (.lst zs') := by
      rcases sp i _ q1 with ⟨rfl, _⟩ | ⟨_, q'⟩
      · exact ⟨_, e⟩
      · exact ⟨_, q'⟩
    have j' : ∃ zs', m.st[j]? = some (.lst zs') := by
      rcases sp j _ q2 with ⟨rfl, _⟩ | ⟨_, q'⟩
      · exact ⟨_, e⟩
      · exact ⟨_, q'⟩
    obtain ⟨z1, i'⟩ := i'
    obtain ⟨z2, j'⟩ := j'
    exact G.nd i j z1 z2 b i' j' p1 p2
def frz (k : Nat) (xs : List Dt) (m : M) : M := ⟨m.sl.map fun o => match o with
  | some (.c j) => if j = k then some (.d (.lst xs)) else some (.c j)
  | o => o, m.st.set k .dead⟩
theorem Good.freeze {k : Nat} {xs : List Dt} (G : Good K W F A m σ H) (e : m.st[k]? = some (.lst xs)) : ∃ F' a, Same F F' ∧ A[k]? = some a ∧ Rep K F' (.lst xs) (.ref a) ∧ Good K W F' A (frz k xs m) σ H := by
  obtain ⟨a, vs, h1, h2, h3, h4, h5⟩ := G.st k xs e
  have s : Same F (upd F a (.lst vs)) := same_upd h4
  have hk : k < m.st.length := (List.getElem?_eq_some_iff.mp e).1
  have rp : Rep K (upd F a (.lst vs)) (.lst xs) (.ref a) := by
    simp only [Rep]
    exact ⟨a, vs, rfl, Rd.of upd_same, Reps.mono s h3⟩
  have sp : ∀ j zs, (m.st.set k Cell.dead)[j]? = some (.lst zs) → j ≠ k ∧ m.st[j]? = some (.lst zs) := fun j c q => by
    rw [List.getElem?_set] at q
    by_cases hj : k = j
    · rw [if_pos hj, if_pos hk] at q
      cases q
    · rw [if_neg hj] at q
      exact ⟨fun z => hj z.symm, q⟩
  refine ⟨upd F a (.lst vs), a, s, h1, rp, ⟨fun b x q => ?_, G.hid, fun b x q => by rw [upd_ne (fun z => by rw [z, h5] at q; cases q)]; exact G.dj b x q, by unfold frz; rw [List.length_map]; exact G.slen, fun i v q => ?_, by unfold frz; rw [List.length_set]; exact G.len, fun j zs q => ?_, fun i j zs ts b q1 q2 p1 p2 => ?_, fun q hq => ⟨(G.tb q hq).1, by rw [upd_ne (tab_ne (G.tb q hq).1 h2)]; exact (G.tb q hq).2.1, (G.tb q hq).2.2⟩, Ghost.mono G.gh (SameO.refl _) s (pre_refl _)⟩⟩
  · by_cases hb : b = a
    · subst hb
      rw [upd_same] at q
      cases q
      exact h2
    · rw [upd_ne hb] at q
      exact G.ext _ _ q
  · unfold frz at q
    rw [List.getElem?_map] at q
    cases r : m.sl[i]? with
    | none =>
      rw [r] at q
      cases q
    | some o =>
      rw [r] at q
      cases o with
      | none => cases q
      | some w =>
        obtain ⟨u, p1, p2⟩ := G.sl i w r
        cases w with
        | d x =>
          cases q
          exact ⟨u, p1, Rep.mono s p2⟩
        | c j =>
          by_cases hj : j = k
          · subst hj
            have q' : some (some (if j = j then Vl.d (.lst xs) else .c j)) = some (some v) := by
              rw [if_pos rfl]
              simpa using q
            rw [if_pos rfl] at q'
            cases q'
            obtain ⟨b, p3, rfl⟩ := p2
            rw [h1] at p3
            cases p3
            exact ⟨_, p1, rp⟩
          · have q' : v = .c j := by
              have : (if j = k then some (Vl.d (.lst xs)) else some (.c j)) = some v := Option.some.inj q
              rw [if_neg hj] at this
              exact (Option.some.inj this).symm
            subst q'
            exact ⟨u, p1, p2⟩
  · obtain ⟨hj, q'⟩ := sp j zs q
    obtain ⟨b, us, p1, p2, p3, p4⟩ := G.st j zs q'
    have nb : b ≠ a := fun z => hj (G.nd j k zs xs a q' e (by rw [← z]; exact p1) h1)
    exact ⟨b, us, p1, p2, Reps.mono s p3, by rw [upd_ne nb]; exact p4.1, p4.2⟩
  · obtain ⟨_, q1'⟩ := sp i zs q1
    obtain ⟨_, q2'⟩ := sp j ts q2
    exact G.nd i j zs ts b q1' q2' p1 p2
def view (m : M) : Vl → Option Dt
  | .d x => some x
  | .c k => match m.st[k]? with
    | some (.lst xs) => some (.lst xs)
    | _ => none
def RepB (K : PySem.W.Frag) (F H : Hp) : Dt → V → Prop
  | .lst ds, u => ∃ a vs, u = .ref a ∧ Rd H a (.lst vs) ∧ Reps K F ds vs
  | x, u => Rep K F x u
theorem Good.view {v : Vl} {u : V} {x : Dt} (G : Good K W F A m σ H) (r : RepV K F A v u) (e : view m v = some x) : RepB K F H x u := by
  cases v with
  | d y =>
    cases e
    cases x with
    | lst ds =>
      have r' : Rep K F (.lst ds) u := r
      simp only [Rep] at r'
      obtain ⟨a, vs, e1, s, q⟩ := r'
      exact ⟨a, vs, e1, rd_mono G.ext s, q⟩
    | _ => exact r
  | c k =>
    obtain ⟨a, h1, rfl⟩ := r
    unfold RT.view at e
    cases q : m.st[k]? with
    | none =>
      simp only [q] at e
      cases e
    | some c =>
      cases c with
      | dead =>
        simp only [q] at e
        cases e
      | lst xs =>
        simp only [q] at e
        cases e
        obtain ⟨a', vs, h1', h2, h3, _⟩ := G.st k xs q
        rw [h1] at h1'
        cases h1'
        exact ⟨a, vs, rfl, Rd.of h2, h3⟩
end
end RT

set_option maxRecDepth 100000
set_option maxHeartbeats 4000000
namespace RT
open PySem PySem.Spec PyProof.Rows L2
variable [Gh : Ghost]

def onV (m : M) (v : Vl) (k : Dt → Prop) : Prop := match view m v with
  | some x => k x
  | none => False
theorem onV_elim {m : M} {v : Vl} {k : Dt → Prop} (h : onV m v k) : ∃ x, view m v = some x ∧ k x := by
  unfold onV at h
  split at h
  · exact ⟨_, by assumption, h⟩
  · exact h.elim
def onD (v : Vl) (k : Dt → Prop) : Prop := match v with
  | .d x => k x
  | .c _ => False
theorem onD_elim {v : Vl} {k : Dt → Prop} (h : onD v k) : ∃ x, v = .d x ∧ k x := by
  cases v with
  | d x => exact ⟨x, rfl, h⟩
  | c k => exact h.elim

def onC (st : List Cell) (k : Nat) (P : List Dt → Prop) : Prop := match st[k]? with
  | some (.lst xs) => P xs
  | _ => False
theorem onC_elim {st : List Cell} {k : Nat} {P : List Dt → Prop} (h : onC st k P) : ∃ xs, st[k]? = some (.lst xs) ∧ P xs := by
  unfold onC at h
  split at h
  · exact ⟨_, by assumption, h⟩
  · exact h.elim
theorem onC_mk {st : List Cell} {k : Nat} {P : List Dt → Prop} {xs : List Dt} (e : st[k]? = some (.lst xs)) (h : P xs) : onC st k P := by
  unfold onC
  rw [e]
  exact h
section
variable {X : Cx}

def dVar (i : Nat) : DE := fun m Q => match m.sl[i]? with
  | some (some v) => Q v m
  | _ => False
theorem dVar_elim {i : Nat} {m : M} {Q : Vl → M → Prop} (h : dVar i m Q) : ∃ v, m.sl[i]? = some (some v) ∧ Q v m := by
  unfold dVar at h
  split at h
  · exact ⟨_, by assumption, h⟩
  · exact h.elim
theorem je_var (i : Nat) {x : Str} {pos : Pos} (hN : X.N[i]? = some x := by rfl) (hv : Vis X.env.scope x := by first | exact Or.inl rfl | exact Or.inr (Or.inl rfl) | exact Or.inr (Or.inr rfl)) (hd : (x == ("__debug__" : Str)) = false := by decide)
    (hcd : (x == ("__classdict__" : Str)) = false := by decide) : JE X (.Name x pos) (dVar i) :=
  (pv i hN hv hd hcd).imp fun σ H Q ⟨W, F, A, m, Qd, G, h, c⟩ => by
    obtain ⟨v, e, q⟩ := dVar_elim h
    obtain ⟨u, e', r⟩ := G.sl i v e
    exact ⟨u, e', c F A v m H (Same.refl _) (pre_refl _) G q u r⟩
def dC (x : Dt) : DE := fun m Q => Q (.d x) m
theorem lift_c {K : PySem.W.Frag} {x : Dt} {v : V} (r : ∀ F, Rep K F x v) {σ : L2.St} {H : Hp} {Q : VK} (h : lift K (dC x) σ H Q) : tC v σ H Q := by
  obtain ⟨W, F, A, m, Qd, G, h, c⟩ := h
  exact c F A _ m H (Same.refl _) (pre_refl _) G h v (r F)
theorem rep_int {K : PySem.W.Frag} {F : Hp} {i : Int} : Rep K F (.int i) (.int i) := by simp only [Rep]
theorem rep_bl {K : PySem.W.Frag} {F : Hp} {b : Bool} : Rep K F (.bl b) (.bl b) := by simp only [Rep]
theorem rep_non {K : PySem.W.Frag} {F : Hp} : Rep K F .non .non := by simp only [Rep]
theorem rep_str {K : PySem.W.Frag} {F : Hp} {s : Str} : Rep K F (.str s) (.str s) := by simp only [Rep]
theorem je_int {i j pos} : JE X (.Constant (.int i) j pos) (dC (.int i)) := pe_int.imp fun _ _ _ h => lift_c (fun _ => rep_int) h
theorem je_bl {b j pos} : JE X (.Constant (.bool b) j pos) (dC (.bl b)) := pe_bl.imp fun _ _ _ h => lift_c (fun _ => rep_bl) h
theorem je_non {j pos} : JE X (.Constant .none j pos) (dC .non) := pe_non.imp fun _ _ _ h => lift_c (fun _ => rep_non) h
theorem je_str {x j pos} : JE X (.Constant (.str x) j pos) (dC (.str x)) := pe_str.imp fun _ _ _ h => lift_c (fun _ => rep_str) h
structure GlobD (X : Cx) (x : Str) (d : Dt) : Prop where
  gl : Gl X x
  val : ∃ (v : V) (u : Value), X.mg x = some u ∧ RelV v u ∧ ∀ F, Rep X.K F d v
  nd : (x == ("__debug__" : Str)) = false
theorem je_glob {x : Str} {d : Dt} {pos : Pos} (g : GlobD X x d) : JE X (.Name x pos) (dC d) := by
  obtain ⟨hg, ⟨v, u, hm, r, rp⟩, nd⟩ := g
  exact (pe_glob hg hm r nd).imp fun _ _ _ h => lift_c rp h

abbrev DR2 := Dt → Dt → (Dt → Prop) → Prop
def dOp (r : DR2) (ta tb : DE) : DE := fun m Q => ta m fun v m1 => tb m1 fun w m2 => onV m2 v fun x => onV m2 w fun y => r x y fun z => Q (.d z) m2
def ValD (K : PySem.W.Frag) (R : V → V → Hp → VK → Prop) (r : DR2) : Prop :=
  ∀ (W F : Hp) (A : List Addr) (m : M) (σ : L2.St) (H : Hp) (x y : Dt) (u v : V) (P : Dt → Prop) (Q : VK), Good K W F A m σ H → RepB K F H x u → RepB K F H y v → r x y P →
    (∀ F' H' z w, Same F F' → Good K W F' A m σ H' → Rep K F' z w → P z → Q w H') → R u v H Q
def OpD (X : Cx) (f : Value → Value → Sem Value) (r : DR2) : Prop := ∃ R : R2, OpR X f R ∧ ValD X.K R r
theorem lift_op {K : PySem.W.Frag} {R : R2} {r : DR2} {ta tb : DE} (hR : ValD K R r) {σ : L2.St} {H : Hp} {Q : VK} (h : lift K (dOp r ta tb) σ H Q) : tOp R (lift K ta) (lift K tb) σ H Q := by
  obtain ⟨W, F, A, m, Qd, G, h, c⟩ := h
  refine ⟨W, F, A, m, _, G, h, fun F1 A1 v m1 H1 s1 p1 G1 q1 u r1 => ⟨W, F1, A1, m1, _, G1, q1, fun F2 A2 w m2 H2 s2 p2 G2 q2 u2 r2 => ?_⟩⟩
  obtain ⟨x, ex, q2⟩ := onV_elim q2
  obtain ⟨y, ey, q2⟩ := onV_elim q2
  exact hR W F2 A2 m2 σ H2 x y u u2 _ Q G2 (G2.view (RepV.mono s2 p2 r1) ex) (G2.view r2 ey) q2 fun F' H' z w s' G' rz pz => c F' A2 (.d z) m2 H' (s1.trans (s2.trans s')) (pre_trans p1 p2) G' pz w rz
theorem je_op {a b : Expr} {ta tb : DE} {op : Operator} {r : DR2} {pos : Pos} (ho : OpD X (binaryOp op) r) (ha : JE X a ta) (hb : JE X b tb) : JE X (.BinOp a op b pos) (dOp r ta tb) := by
  obtain ⟨R, hO, hR⟩ := ho
  exact (pe_op hO ha hb).imp fun _ _ _ h => lift_op hR h
theorem je_cmp {a b : Expr} {ta tb : DE} {op : CmpOp} {r : DR2} {pos : Pos} (ho : OpD X (compareOp op) r) (ha : JE X a ta) (hb : JE X b tb) (hm : behindInMarks op b = false) : JE X (.Compare a [op] [b] pos) (dOp r ta tb) := by
  obtain ⟨R, hO, hR⟩ := ho
  exact (pe_cmpR hO ha hb hm).imp fun _ _ _ h => lift_op hR h

def dTest (t : DE) : DT := fun m Q => t m fun v m1 => match v with
  | .d (.bl b) => Q b m1
  | _ => False
theorem dTest_elim {v : Vl} {k : Bool → Prop} (h : match v with
  | .d (.bl b) => k b
  | _ => False) : ∃ b, v = .d (.bl b) ∧ k b := by
  split at h
  · exact ⟨_, rfl, h⟩
  · exact h.elim
theorem jt_cmp {a b : Expr} {ta tb : DE} {op : CmpOp} {r : DR2} {pos : Pos} (ho : OpD X (compareOp op) r) (ha : JE X a ta) (hb : JE X b tb) (hm : behindInMarks op b = false) : JT X (.Compare a [op] [b] pos) (dTest (dOp r ta tb)) := by
  obtain ⟨R, hO, hR⟩ := ho
  refine (pt_cmpR hO ha hb hm).imp fun σ H Q h => ?_
  obtain ⟨W, F, A, m, Qd, G, h, c⟩ := h
  refine lift_op hR ⟨W, F, A, m, _, G, h, fun F1 A1 v m1 H1 s1 p1 G1 q1 u r1 => ?_⟩
  obtain ⟨k, rfl, q⟩ := dTest_elim q1
  have r1' : Rep X.K F1 (.bl k) u := r1
  simp only [Rep] at r1'
  exact ⟨k, r1', c F1 A1 k m1 H1 s1 p1 G1 q⟩

def rInt (C : Int → Int → Prop) (g : Int → Int → Dt) : DR2 := fun x y P => match x, y with
  | .int i, .int j => C i j ∧ P (g i j)
  | _, _ => False
theorem rInt_elim {C : Int → Int → Prop} {g : Int → Int → Dt} {x y : Dt} {P : Dt → Prop} (h : rInt C g x y P) : ∃ i j, x = .int i ∧ y = .int j ∧ C i j ∧ P (g i j) := by
  unfold rInt at h
  split at h
  · exact ⟨_, _, rfl, rfl, h⟩
  · exact h.elim
theorem repB_int {K : PySem.W.Frag} {F H : Hp} {i : Int} {u : V} (h : RepB K F H (.int i) u) : u = .int i := by
  have h' : Rep K F (.int i) u := h
  simpa only [Rep] using h'
theorem repB_str {K : PySem.W.Frag} {F H : Hp} {i : Str} {u : V} (h : RepB K F H (.str i) u) : u = .str i := by
  have h' : Rep K F (.str i) u := h
  simpa only [Rep] using h'
theorem repB_bl {K : PySem.W.Frag} {F H : Hp} {i : Bool} {u : V} (h : RepB K F H (.bl i) u) : u = .bl i := by
  have h' : Rep K F (.bl i) u := h
  simpa only [Rep] using h'
theorem repB_non {K : PySem.W.Frag} {F H : Hp} {u : V} (h : RepB K F H .non u) : u = .non := by
  have h' : Rep K F .non u := h
  simpa only [Rep] using h'
theorem opD_int {f : Value → Value → Sem Value} {C : Int → Int → Prop} {g : Int → Int → V} {gd : Int → Int → Dt} (h : OpR X f (rI C g)) (hg : ∀ F i j, Rep X.K F (gd i j) (g i j)) : OpD X f (rInt C gd) :=
  ⟨_, h, fun W F A m σ H x y u v P Q G rx ry q c => by
    obtain ⟨i, j, rfl, rfl, hc, q⟩ := rInt_elim q
    exact ⟨i, j, repB_int rx, repB_int ry, hc, c F H _ _ (Same.refl _) G (hg F i j) q⟩⟩
theorem opD_int0 {f : Value → Value → Sem Value} {g : Int → Int → V} {gd : Int → Int → Dt} (h : OpR X f (rI0 g)) (hg : ∀ F i j, Rep X.K F (gd i j) (g i j)) : OpD X f (rInt (fun _ _ => True) gd) :=
  ⟨_, h, fun W F A m σ H x y u v P Q G rx ry q c => by
    obtain ⟨i, j, rfl, rfl, hc, q⟩ := rInt_elim q
    exact ⟨i, j, repB_int rx, repB_int ry, c F H _ _ (Same.refl _) G (hg F i j) q⟩⟩
theorem o_sub : OpD X (binaryOp .Sub) (rInt (fun _ _ => True) fun i j => .int (i - j)) := opD_int0 op_sub fun _ _ _ => rep_int
def MulOk (i j : Int) : Prop := i.natAbs.log2 + j.natAbs.log2 < 67108864
theorem MulOk.ok {i j : Int} (h : MulOk i j) : IntMulOk i j := by
  have b : ∀ x : Int, Builtin.Int.intBits x ≤ x.natAbs.log2 + 1 := fun x => by
    unfold Builtin.Int.intBits
    split <;> omega
  have h1 := b i
  have h2 := b j
  have h3 : i.natAbs.log2 + j.natAbs.log2 < 67108864 := h
  have e : bitsLine = 134217728 := by decide
  unfold IntMulOk
  intro z
  rw [Bool.and_eq_true] at z
  have z2 := z.2
  unfold Builtin.Int.intTooBig at z2
  have z3 := of_decide_eq_true z2
  rw [e] at z3
  omega
theorem o_mul : OpD X (binaryOp .Mult) (rInt MulOk fun i j => .int (i * j)) := opD_int (C := MulOk) (opI fun _ _ _ _ _ _ _ hc q => mul_int q hc.ok) fun _ _ _ => rep_int
theorem o_mod : OpD X (binaryOp .Mod) (rInt (fun _ j => j ≠ 0) fun i j => .int (i.fmod j)) := opD_int op_modN fun _ _ _ => rep_int
theorem o_pow : OpD X (binaryOp .Pow) (rInt CPow fun i j => .int (i ^ j.toNat)) := opD_int op_pow fun _ _ _ => rep_int
theorem o_lt : OpD X (compareOp .Lt) (rInt (fun _ _ => True) fun i j => .bl (decide (i < j))) := opD_int0 op_lt fun _ _ _ => rep_bl
theorem o_gt : OpD X (compareOp .Gt) (rInt (fun _ _ => True) fun i j => .bl (decide (j < i))) := opD_int0 op_gt fun _ _ _ => rep_bl
theorem o_ge : OpD X (compareOp .GtE) (rInt (fun _ _ => True) fun i j => .bl (decide (j ≤ i))) := opD_int0 op_ge fun _ _ _ => rep_bl
end
end RT

set_option maxRecDepth 100000
set_option maxHeartbeats 4000000
namespace RT
open PySem PySem.Spec PyProof.Rows L2
variable [Gh : Ghost]
section
variable {X : Cx}

theorem rv_int {K : PySem.W.Frag} {F : Hp} {A : List Addr} {i : Int} : RepV K F A (.d (.int i)) (.int i) := rep_int (K := K) (F := F)
theorem rv_bl {K : PySem.W.Frag} {F : Hp} {A : List Addr} {b : Bool} : RepV K F A (.d (.bl b)) (.bl b) := rep_bl (K := K) (F := F)
theorem rv_non {K : PySem.W.Frag} {F : Hp} {A : List Addr} : RepV K F A (.d .non) .non := rep_non (K := K) (F := F)

def Pyl (X : Cx) : Prop := ∀ s : Shared, (∀ b o, X.base.get? b = some o → s.heap.get? b = some o) → PySem.PylongRoom (model X.prog X.w) X.A s
def rFdiv : R2 := rI (fun _ j => j ≠ 0) fun i j => .int (i.fdiv j)
theorem op_fdivA (hp : Pyl X) : OpR X (binaryOp .FloorDiv) rFdiv := by
  intro pins s σ H x y v u Q I rx ry h
  obtain ⟨i, j, rfl, rfl, hc, q⟩ := h
  obtain ⟨t, rfl⟩ := rx
  obtain ⟨t', rfl⟩ := ry
  exact floordiv_int hc ⟨.int _, H, I.tok _, ⟨_, rfl⟩, q⟩ (.inr (hp s I.bk))
theorem o_fdiv (hp : Pyl X) : OpD X (binaryOp .FloorDiv) (rInt (fun _ j => j ≠ 0) fun i j => .int (i.fdiv j)) := opD_int (op_fdivA hp) fun _ _ _ => rep_int

def rU (f : Dt → (Dt → Prop) → Prop) (t : DE) : DE := fun m Q => t m fun v m1 => onD v fun x => f x fun z => Q (.d z) m1
def rNeg : Dt → (Dt → Prop) → Prop := fun x P => match x with
  | .int i => P (.int (-i))
  | _ => False
theorem je_neg {a : Expr} {ta : DE} {pos : Pos} (ha : JE X a ta) : JE X (.UnaryOp .USub a pos) (rU rNeg ta) := by
  refine (pe_un un_neg ha).imp fun σ H Q h => ?_
  obtain ⟨W, F, A, m, Qd, G, h, c⟩ := h
  refine ⟨W, F, A, m, _, G, h, fun F1 A1 v m1 H1 s1 p1 G1 q1 u r1 => ?_⟩
  obtain ⟨x, rfl, q⟩ := onD_elim q1
  cases x with
  | int i =>
    have e : u = .int i := repB_int (H := H1) r1
    exact ⟨i, e, c F1 A1 _ m1 H1 s1 p1 G1 q _ rv_int⟩
  | _ => exact (show False from q).elim

theorem repB_tup {K : PySem.W.Frag} {F H : Hp} {ds : List Dt} {u : V} (h : RepB K F H (.tup ds) u) : ∃ a vs, u = .ref a ∧ SqT K F a vs ∧ Reps K F ds vs := by
  have h' : Rep K F (.tup ds) u := h
  simpa only [Rep] using h'

def truD : Dt → (Bool → Prop) → Prop := fun x P => match x with
  | .non => P false
  | .bl b => P b
  | .int i => P (i != 0)
  | .str y => y.length ≤ sizeLine ∧ P ((y.length : Int) != 0)
  | .lst xs => P (!xs.isEmpty)
  | .tup xs => P (!xs.isEmpty)
def dTru (t : DE) : DT := fun m Q => t m fun v m1 => onV m1 v fun x => truD x fun b => Q b m1
theorem empty_eq {K : PySem.W.Frag} {F : Hp} {ds : List Dt} {vs : List V} (r : Reps K F ds vs) : ds.isEmpty = vs.isEmpty := by
  have e := r.length
  cases ds <;> cases vs <;> first | rfl | (simp at e)
theorem jt_tru {a : Expr} {ta : DE} (ha : JE X a ta) (he : ∀ whole, isTrue a X.env whole = (do let v ← whole; standAt a.pos; holding [v] (truthy v)) := by intro _; rfl) : JT X a (dTru ta) := by
  refine (pt_truth ha he).imp fun σ H Q h => ?_
  obtain ⟨W, F, A, m, Qd, G, h, c⟩ := h
  refine ⟨W, F, A, m, _, G, h, fun F1 A1 v m1 H1 s1 p1 G1 q1 u r1 => ?_⟩
  obtain ⟨x, ex, q⟩ := onV_elim q1
  have rb := G1.view r1 ex
  cases x with
  | non =>
    rw [repB_non rb]
    exact ⟨false, rfl, c F1 A1 _ m1 H1 s1 p1 G1 q⟩
  | bl b =>
    rw [repB_bl rb]
    exact ⟨b, rfl, c F1 A1 _ m1 H1 s1 p1 G1 q⟩
  | int i =>
    rw [repB_int rb]
    exact ⟨_, rfl, c F1 A1 _ m1 H1 s1 p1 G1 q⟩
  | str y =>
    rw [repB_str rb]
    exact ⟨_, ⟨q.1, rfl⟩, c F1 A1 _ m1 H1 s1 p1 G1 q.2⟩
  | lst xs =>
    obtain ⟨a, vs, rfl, hs, rs⟩ := rb
    have q' : Qd (!xs.isEmpty) m1 := q
    rw [empty_eq rs] at q'
    exact ⟨_, .inl ⟨vs, .inl hs, rfl⟩, c F1 A1 _ m1 H1 s1 p1 G1 q'⟩
  | tup xs =>
    obtain ⟨a, vs, rfl, hs, rs⟩ := repB_tup rb
    have hs := seqT_mono G1.ext hs
    have q' : Qd (!xs.isEmpty) m1 := q
    rw [empty_eq rs] at q'
    exact ⟨_, .inr (.inl ⟨vs, hs, rfl⟩), c F1 A1 _ m1 H1 s1 p1 G1 q'⟩
def dAnd (t u : DT) : DT := fun m Q => t m fun b m1 => if b = true then u m1 Q else Q false m1
def dOr (t u : DT) : DT := fun m Q => t m fun b m1 => if b = true then Q true m1 else u m1 Q
def dNot (t : DT) : DT := fun m Q => t m fun b m1 => Q (!b) m1
variable {a b : Expr} {rest : List Expr} {pos : Pos} {t u : DT} {ta tb : DE}
theorem jw_and1 (h : JT X a t) : JW X (.BoolOp .And [a] pos) t := pw_and1 h
theorem jw_or1 (h : JT X a t) : JW X (.BoolOp .Or [a] pos) t := pw_or1 h
theorem jw_and (h : JT X a t) (h' : JW X (.BoolOp .And (b :: rest) pos) u) : JW X (.BoolOp .And (a :: b :: rest) pos) (dAnd t u) := by
  refine (pw_and h h').imp fun σ H Q hh => ?_
  obtain ⟨W, F, A, m, Qd, G, h, c⟩ := hh
  refine ⟨W, F, A, m, _, G, h, fun F1 A1 v m1 H1 s1 p1 G1 q1 => ?_⟩
  cases v with
  | true => exact ⟨W, F1, A1, m1, _, G1, q1, fun F2 A2 w m2 H2 s2 p2 G2 q2 => c F2 A2 w m2 H2 (s1.trans s2) (pre_trans p1 p2) G2 q2⟩
  | false => exact c F1 A1 false m1 H1 s1 p1 G1 q1
theorem jw_or (h : JT X a t) (h' : JW X (.BoolOp .Or (b :: rest) pos) u) : JW X (.BoolOp .Or (a :: b :: rest) pos) (dOr t u) := by
  refine (pw_or h h').imp fun σ H Q hh => ?_
  obtain ⟨W, F, A, m, Qd, G, h, c⟩ := hh
  refine ⟨W, F, A, m, _, G, h, fun F1 A1 v m1 H1 s1 p1 G1 q1 => ?_⟩
  cases v with
  | true => exact c F1 A1 true m1 H1 s1 p1 G1 q1
  | false => exact ⟨W, F1, A1, m1, _, G1, q1, fun F2 A2 w m2 H2 s2 p2 G2 q2 => c F2 A2 w m2 H2 (s1.trans s2) (pre_trans p1 p2) G2 q2⟩
theorem jw_pt {e : Expr} (h : JW X e t) : JT X e t := PW.pt h
theorem jt_not (h : JT X a t) : JT X (.UnaryOp .Not a pos) (dNot t) := by
  refine (pt_not h).imp fun σ H Q hh => ?_
  obtain ⟨W, F, A, m, Qd, G, h, c⟩ := hh
  exact ⟨W, F, A, m, _, G, h, fun F1 A1 v m1 H1 s1 p1 G1 q1 => c F1 A1 _ m1 H1 s1 p1 G1 q1⟩

def dOrV (t u : DE) : DE := fun m Q => t m fun v m1 => match v with
  | .d (.bl b) => if b = true then Q (.d (.bl true)) m1 else u m1 Q
  | _ => False
def dNotV (t : DE) : DE := fun m Q => t m fun v m1 => match v with
  | .d (.bl b) => Q (.d (.bl (!b))) m1
  | _ => False
theorem je_one {op} (h : JE X a ta) : JE X (.BoolOp op [a] pos) ta := pe_one h
theorem je_or (h : JE X a ta) (h' : JE X (.BoolOp .Or (b :: rest) pos) tb) : JE X (.BoolOp .Or (a :: b :: rest) pos) (dOrV ta tb) := by
  refine (pe_or h h').imp fun σ H Q hh => ?_
  obtain ⟨W, F, A, m, Qd, G, h, c⟩ := hh
  refine ⟨W, F, A, m, _, G, h, fun F1 A1 v m1 H1 s1 p1 G1 q1 u r1 => ?_⟩
  obtain ⟨b, rfl, q⟩ := dTest_elim q1
  rw [repB_bl (H := H1) r1]
  refine ⟨b, rfl, ?_⟩
  cases b with
  | true => exact c F1 A1 _ m1 H1 s1 p1 G1 q _ rv_bl
  | false => exact ⟨W, F1, A1, m1, _, G1, q, fun F2 A2 w m2 H2 s2 p2 G2 q2 => c F2 A2 w m2 H2 (s1.trans s2) (pre_trans p1 p2) G2 q2⟩
theorem je_notV (h : JE X a ta) : JE X (.UnaryOp .Not a pos) (dNotV ta) := by
  refine (pe_not h).imp fun σ H Q hh => ?_
  obtain ⟨W, F, A, m, Qd, G, h, c⟩ := hh
  refine ⟨W, F, A, m, _, G, h, fun F1 A1 v m1 H1 s1 p1 G1 q1 u r1 => ?_⟩
  obtain ⟨b, rfl, q⟩ := dTest_elim q1
  rw [repB_bl (H := H1) r1]
  exact ⟨b, rfl, c F1 A1 _ m1 H1 s1 p1 G1 q _ rv_bl⟩

def isN : Dt → Bool
  | .non => true
  | _ => false
theorem isN_of {K : PySem.W.Frag} {F : Hp} {x : Dt} {u : V} (r : Rep K F x u) : decide (u = .non) = isN x := by
  cases x with
  | non =>
    simp only [Rep] at r
    rw [r]
    rfl
  | tup ds =>
    simp only [Rep] at r
    obtain ⟨a, vs, rfl, _⟩ := r
    rfl
  | lst ds =>
    simp only [Rep] at r
    obtain ⟨a, vs, rfl, _⟩ := r
    rfl
  | _ =>
    simp only [Rep] at r
    rw [r]
    rfl
def dIsN (t : DE) : DE := fun m Q => t m fun v m1 => onD v fun x => Q (.d (.bl (isN x))) m1
def dNotN (t : DE) : DE := fun m Q => t m fun v m1 => onD v fun x => Q (.d (.bl (!isN x))) m1
theorem lift_isN {σ : L2.St} {H : Hp} {Q : VK} (h : lift X.K (dIsN ta) σ H Q) : tIsN (lift X.K ta) σ H Q := by
  obtain ⟨W, F, A, m, Qd, G, h, c⟩ := h
  refine ⟨W, F, A, m, _, G, h, fun F1 A1 v m1 H1 s1 p1 G1 q1 u r1 => ?_⟩
  obtain ⟨x, rfl, q⟩ := onD_elim q1
  rw [isN_of r1]
  exact c F1 A1 _ m1 H1 s1 p1 G1 q _ rv_bl
theorem lift_notN {σ : L2.St} {H : Hp} {Q : VK} (h : lift X.K (dNotN ta) σ H Q) : tNotN (lift X.K ta) σ H Q := by
  obtain ⟨W, F, A, m, Qd, G, h, c⟩ := h
  refine ⟨W, F, A, m, _, G, h, fun F1 A1 v m1 H1 s1 p1 G1 q1 u r1 => ?_⟩
  obtain ⟨x, rfl, q⟩ := onD_elim q1
  rw [isN_of r1]
  exact c F1 A1 _ m1 H1 s1 p1 G1 q _ rv_bl
theorem je_isN {j pos'} (ha : JE X a ta) : JE X (.Compare a [.Is] [.Constant .none j pos'] pos) (dIsN ta) := (pe_cmp (pc_isN ha)).imp fun _ _ _ h => lift_isN h
theorem jt_of_cmp {op : CmpOp} {t : DE} {te : TE} (hc : PC X op a b te) (hl : ∀ σ H Q, lift X.K t σ H Q → te σ H Q) (h1 : behindInMarks op b = false := by first | exact nobehind _ (by decide) (by decide) | rfl) : JT X (.Compare a [op] [b] pos) (dTest t) := by
  refine (pt_cmp hc h1).imp fun σ H Q h => ?_
  obtain ⟨W, F, A, m, Qd, G, h, c⟩ := h
  refine hl σ H _ ⟨W, F, A, m, _, G, h, fun F1 A1 v m1 H1 s1 p1 G1 q1 u r1 => ?_⟩
  obtain ⟨k, rfl, q⟩ := dTest_elim q1
  exact ⟨k, repB_bl (H := H1) r1, c F1 A1 k m1 H1 s1 p1 G1 q⟩
theorem jt_isN {j pos'} (ha : JE X a ta) : JT X (.Compare a [.Is] [.Constant .none j pos'] pos) (dTest (dIsN ta)) := jt_of_cmp (pc_isN ha) fun _ _ _ h => lift_isN h
theorem jt_notN {j pos'} (ha : JE X a ta) : JT X (.Compare a [.IsNot] [.Constant .none j pos'] pos) (dTest (dNotN ta)) := jt_of_cmp (pc_notN ha) fun _ _ _ h => lift_notN h

def dNil : DA := fun m Q => Q [] m
def dCons (t : DE) (ts : DA) : DA := fun m Q => t m fun v m1 => ts m1 fun vs m2 => Q (v :: vs) m2
theorem ja_nil : JA X [] dNil := pa_nil.imp fun σ H Q ⟨W, F, A, m, Qd, G, h, c⟩ => c F A [] m H (Same.refl _) (pre_refl _) G h [] rfl
theorem ja_cons {e : Expr} {es : List Expr} {ts : DA} (h : JE X e ta) (hs : JA X es ts) (he : starEach (e :: es) X.env = (false, eval e X.env) :: starEach es X.env := by rfl) : JA X (e :: es) (dCons ta ts) := by
  refine (pa_cons h hs he).imp fun σ H Q hh => ?_
  obtain ⟨W, F, A, m, Qd, G, h, c⟩ := hh
  refine ⟨W, F, A, m, _, G, h, fun F1 A1 v m1 H1 s1 p1 G1 q1 u r1 => ⟨W, F1, A1, m1, _, G1, q1, fun F2 A2 vs m2 H2 s2 p2 G2 q2 us r2 => ?_⟩⟩
  exact c F2 A2 (v :: vs) m2 H2 (s1.trans s2) (pre_trans p1 p2) G2 q2 (u :: us) ⟨u, us, rfl, RepV.mono s2 p2 r1, r2⟩
def onDs : List Vl → (List Dt → Prop) → Prop
  | [], k => k []
  | .d x :: r, k => onDs r fun xs => k (x :: xs)
  | .c _ :: _, _ => False
theorem onDs_elim : ∀ {vs : List Vl} {k : List Dt → Prop}, onDs vs k → ∃ xs, vs = xs.map .d ∧ k xs
  | [], _, h => ⟨[], rfl, h⟩
  | .d x :: r, k, h => by
    obtain ⟨xs, e, q⟩ := onDs_elim (vs := r) h
    exact ⟨x :: xs, by rw [e]; rfl, q⟩
  | .c _ :: _, _, h => h.elim
theorem reps_of {K : PySem.W.Frag} {F : Hp} {A : List Addr} : ∀ {xs : List Dt} {us : List V}, RepVs K F A (xs.map .d) us → Reps K F xs us
  | [], us, h => by
    have e : us = [] := h
    rw [e]
    exact .nil
  | x :: xs, us, h => by
    obtain ⟨u, r, rfl, h1, h2⟩ := h
    exact .cons h1 (reps_of h2)

def dTup (ts : DA) : DE := fun m Q => ts m fun vs m1 => vs.length ≤ sizeLine ∧ onDs vs fun xs => Q (.d (.tup xs)) m1
def dLst (ts : DA) : DE := fun m Q => ts m fun vs m1 => vs.length ≤ sizeLine ∧ onDs vs fun xs => Q (.d (.lst xs)) m1
def dLstO (ts : DA) : DE := fun m Q => ts m fun vs m1 => vs.length ≤ sizeLine ∧ onDs vs fun xs => Q (.c m1.st.length) ⟨m1.sl, m1.st ++ [.lst xs]⟩
theorem je_tup {es : List Expr} {ts : DA} {k} (h : JA X es ts) : JE X (.Tuple es k pos) (dTup ts) := by
  refine (pe_tup h).imp fun σ H Q hh => ?_
  obtain ⟨W, F, A, m, Qd, G, h, c⟩ := hh
  refine ⟨W, F, A, m, _, G, h, fun F1 A1 vs m1 H1 s1 p1 G1 q1 us r1 => ⟨by rw [← r1.length]; exact q1.1, fun p np => ?_⟩⟩
  obtain ⟨xs, rfl, q⟩ := onDs_elim q1.2
  have rs := reps_of r1
  have s2 := same_upd (o := .tup us) (G1.ext.free np)
  refine c (upd F1 p (.tup us)) A1 _ m1 _ (s1.trans s2) p1 (G1.laid np) q _ ?_
  show Rep X.K _ (.tup xs) _
  simp only [Rep]
  exact ⟨p, us, rfl, SqT.of upd_same, Reps.mono s2 rs⟩
theorem je_lst {es : List Expr} {ts : DA} (h : JA X es ts) : JE X (.List es pos) (dLst ts) := by
  refine (pe_lst h).imp fun σ H Q hh => ?_
  obtain ⟨W, F, A, m, Qd, G, h, c⟩ := hh
  refine ⟨W, F, A, m, _, G, h, fun F1 A1 vs m1 H1 s1 p1 G1 q1 us r1 => ⟨by rw [← r1.length]; exact q1.1, fun p np => ?_⟩⟩
  obtain ⟨xs, rfl, q⟩ := onDs_elim q1.2
  have rs := reps_of r1
  have s2 := same_upd (o := .lst us) (G1.ext.free np)
  refine c (upd F1 p (.lst us)) A1 _ m1 _ (s1.trans s2) p1 (G1.laid np) q _ ?_
  show Rep X.K _ (.lst xs) _
  simp only [Rep]
  exact ⟨p, us, rfl, Rd.of upd_same, Reps.mono s2 rs⟩
theorem je_lstO {es : List Expr} {ts : DA} (h : JA X es ts) : JE X (.List es pos) (dLstO ts) := by
  refine (pe_lst h).imp fun σ H Q hh => ?_
  obtain ⟨W, F, A, m, Qd, G, h, c⟩ := hh
  refine ⟨W, F, A, m, _, G, h, fun F1 A1 vs m1 H1 s1 p1 G1 q1 us r1 => ⟨by rw [← r1.length]; exact q1.1, fun p np => ?_⟩⟩
  obtain ⟨xs, rfl, q⟩ := onDs_elim q1.2
  refine c F1 (A1 ++ [p]) _ _ _ s1 (pre_trans p1 ⟨[p], rfl⟩) (G1.own np (reps_of r1)) q _ ⟨p, ?_, rfl⟩
  rw [← G1.len]
  simp

def onO {α : Type} (o : Option α) (P : α → Prop) : Prop := match o with
  | some z => P z
  | none => False
theorem onO_elim {α : Type} {o : Option α} {P : α → Prop} (h : onO o P) : ∃ z, o = some z ∧ P z := by
  cases o with
  | none => exact h.elim
  | some z => exact ⟨z, rfl, h⟩
theorem onO_mk {α : Type} {o : Option α} {P : α → Prop} {z : α} (e : o = some z) (h : P z) : onO o P := by
  rw [e]
  exact h
def rIx : DR2 := fun x y P => match x, y with
  | .lst xs, .int i => onO (atI xs i) P
  | .tup xs, .int i => onO (atI xs i) P
  | .str s, .int i => s.length ≤ sizeLine ∧ onO (atI s.cps.toList i) fun c => P (.str ⟨#[c]⟩)
  | _, _ => False
theorem atI_reps {K : PySem.W.Frag} {F : Hp} {xs : List Dt} {vs : List V} {i : Int} {z : Dt} (r : Reps K F xs vs) (h : atI xs i = some z) : ∃ v, atI vs i = some v ∧ Rep K F z v := by
  unfold atI at h ⊢
  rw [← r.length]
  cases q : ixN xs.length i with
  | none =>
    rw [q] at h
    cases h
  | some j =>
    rw [q] at h
    exact r.get (i := j) h
theorem val_ix : ValD X.K (L2.rIx X.K) rIx := by
  intro W F A m σ H x y u v P Q G rx ry q c
  have go : ∀ z w, Rep X.K F z w → P z → Q w H := fun z w rz pz => c F H z w (Same.refl _) G rz pz
  unfold rIx at q
  split at q
  · obtain ⟨a, vs, rfl, hs, rs⟩ := rx
    obtain ⟨z, e, q⟩ := onO_elim q
    obtain ⟨w, hw, rz⟩ := atI_reps rs e
    exact .inl ⟨a, vs, _, w, rfl, repB_int ry, .inl hs, hw, go z w rz q⟩
  · obtain ⟨a, vs, rfl, hs, rs⟩ := repB_tup rx
    have hs := seqT_mono G.ext hs
    obtain ⟨z, e, q⟩ := onO_elim q
    obtain ⟨w, hw, rz⟩ := atI_reps rs e
    exact .inr (.inl ⟨a, vs, _, w, rfl, repB_int ry, hs, hw, go z w rz q⟩)
  · obtain ⟨hl, q⟩ := q
    obtain ⟨z, e, q⟩ := onO_elim q
    exact .inr (.inr ⟨_, _, z, repB_str rx, repB_int ry, hl, e, go _ _ rep_str q⟩)
  · exact q.elim
theorem je_ix (ha : JE X a ta) (hb : JE X b tb) (hs : PlainIx b := by intro _ _; rfl) : JE X (.Subscript a b pos) (dOp rIx ta tb) :=
  (pe_ix ix_seq ha hb hs).imp fun _ _ _ h => lift_op val_ix h
end
end RT

set_option maxRecDepth 100000
set_option maxHeartbeats 4000000
namespace RT
open PySem PySem.Spec PyProof.Rows L2
section
variable [Gh : Ghost]

structure GRoom (k : Nat) (A : Around) : Prop where
  room : Room k A
  gd : A.guards = some []
  dp : A.depth + 3 * k + 160 < recursionLimit
theorem GRoom.mono {j k : Nat} {A : Around} (r : GRoom k A) (h : j ≤ k) : GRoom j A := ⟨r.room.mono h, r.gd, by have := r.dp; omega⟩
theorem GRoom.deeper {k : Nat} {A : Around} (r : GRoom (k + 1) A) (env : Env) : GRoom k (A.deeper env) :=
  ⟨r.room.deeper env, r.gd, by have := r.dp; show A.depth + 1 + 3 * k + 160 < _; omega⟩
theorem GRoom.hu {k : Nat} {A : Around} (r : GRoom k A) : A.units + 64 < cLine := r.room.units
structure BaseOk (K : PySem.W.Frag) (mg : Str → Option Value) (base : Heap) : Prop where
  seer : base.NoSeer
  tb : ∀ q ∈ tabsK K, GxR.TabB base mg q.1 q.2
def CodeIs (K : PySem.W.Frag) (f : Addr) (cdv : Value) : Prop := ∃ (oc : Value) (od : Option Addr) (fd : FuncData) (osl : Array (Option Value)), K.lookup f = some ⟨oc, od, .func fd, osl⟩ ∧ fd.code = cdv
structure Amb (k : Nat) (X : Cx) : Prop where
  rm : GRoom k X.A
  py : Pyl X
  tb : ∀ q ∈ tabsK X.K, GxR.TabB X.base X.mg q.1 q.2
theorem Amb.mono {j k : Nat} {X : Cx} (r : Amb k X) (h : j ≤ k) : Amb j X := ⟨r.rm.mono h, r.py, r.tb⟩
theorem Amb.hu {k : Nat} {X : Cx} (r : Amb k X) : X.A.units + 64 < cLine := r.rm.room.units

structure Fnn (P : Program) (w : World) (K : PySem.W.Frag) (mg : Str → Option Value) (base : Heap) (CX : CXT) (k : Nat) (f : Addr) (fd : FuncData) (ps : List Str) (sp : Sp) : Prop where
  len : ∀ vs H Q E, sp vs H Q E → vs.length = ps.length
  run : ∀ (A : Around) (outer : List Env) (s : Shared) (H : Hp) (args : Args) (us : List Value) (vs : List V) (Q : VK) (E : XK), GRoom k A → Env0 P w K mg base A outer s H → BindsTo s fd args (ps.zip us) → Vals vs us → sp vs H Q E →
    codeAny (model P w) A (.call (.ref f) args) (CR CX outer P w H s Q E) s
theorem Fnn.mono {P : Program} {w : World} {K : PySem.W.Frag} {mg : Str → Option Value} {base : Heap} {CX : CXT} {j k : Nat} {f : Addr} {fd : FuncData} {ps : List Str} {sp : Sp} (F : Fnn P w K mg base CX j f fd ps sp) (h : j ≤ k) :
    Fnn P w K mg base CX k f fd ps sp := ⟨F.len, fun A outer s H args us vs Q E hr => F.run A outer s H args us vs Q E (hr.mono h)⟩
theorem Fnn.imp {P : Program} {w : World} {K : PySem.W.Frag} {mg : Str → Option Value} {base : Heap} {CX : CXT} {k : Nat} {f : Addr} {fd : FuncData} {ps : List Str} {sp sp' : Sp} (F : Fnn P w K mg base CX k f fd ps sp)
    (h : ∀ vs H Q E, sp' vs H Q E → sp vs H Q E) : Fnn P w K mg base CX k f fd ps sp' :=
  ⟨fun vs H Q E q => F.len vs H Q E (h _ _ _ _ q), fun A outer s H args us vs Q E hr he hb hv hs => F.run A outer s H args us vs Q E hr he hb hv (h _ _ _ _ hs)⟩
section
variable {X : Cx} {CX : CXT} {k : Nat} {f C : Addr} {fd : FuncData} {ps : List Str} {sp : Sp} {dvs : List V} {ds : List Value} {E : XK} {x m : Str} {p pos apos : Pos} {e o : Expr} {es : List Expr} {ta : TE} {t : TA}
theorem run_fnn {pins : List (Addr × Obj)} {σ : L2.St} {H : Hp} {s : Shared} {Q : VK} {us : List Value} {vs : List V} (F : Fnn X.prog X.w X.K X.mg X.base CX k f fd ps sp) (hr : GRoom k X.A) (hb : Binds X.K fd ps ds) (hd : Vals dvs ds) (hx : Passes CX X E)
    (I : Inv X pins σ H s) (r : Vals vs us) (h : sp (vs ++ dvs) H Q E) : wpAny (model X.prog X.w) X.A (call (.ref f) us) (EP X pins σ Q) X.xe s := by
  have r2 : Vals (vs ++ dvs) (us ++ ds) := r.append hd
  have hl : (us ++ ds).length = ps.length := by rw [← r2.length]; exact F.len _ _ _ _ h
  refine wpAny_call (codeAny_mono (F.run X.A X.stack s H ⟨us, []⟩ (us ++ ds) (vs ++ dvs) Q E hr I.env0 (hb s us I.kIn hl) r2 h) fun r s' hq => ?_)
  cases r with
  | error e => exact hx pins σ H s e s' I hq
  | ok fl =>
    cases fl with
    | ret u => exact I.after hq
    | next => exact False.elim hq
    | brk => exact False.elim hq
    | cont => exact False.elim hq
theorem pn_call (F : Fnn X.prog X.w X.K X.mg X.base CX k f fd ps sp) (hr : GRoom k X.A) (hg : Gl X x) (hm : X.mg x = some (.ref f)) (hk : PySem.W.keepIn X.K (.ref f) = true) (hb : Binds X.K fd ps ds) (hd : Vals dvs ds) (hx : Passes CX X E)
    (ha : PA X (e :: es) t) (hdb : (x == ("__debug__" : Str)) = false := by decide) (he : starEach (e :: es) X.env = (false, eval e X.env) :: starEach es X.env := by rfl) (hpl : (backTo pos (starEach es X.env)).any (·.1) = false := by rfl) :
    PE X (.Call (.Name x p) (e :: es) [] pos) (tCall sp dvs E t) := by
  refine ⟨fun pins s σ H Q I h => ?_⟩
  refine wpAny_Call_Name_kw (ld_glob I hg hm ?_ hdb)
  refine PySem.W.callWith_K (h₀ := X.base) I.ok.mod.kin hk (thn (ha.run pos pins s σ H _ I h) fun us s1 ⟨vs, H1, I1, r, q⟩ => ⟨I1.kIn, ?_⟩) he hpl
  exact run_fnn F hr hb hd hx I1 r q
end
theorem fnn_of {CX : CXT} {P : Program} {w : World} {K : PySem.W.Frag} {mg : Str → Option Value} {base : Heap} {k : Nat} {f : Addr} {name qual : Str} {params : Arguments} {body : List Stmt} {scope : Scope} {dV kV doc pm cdv ct oc : Value} {an od : Option Addr}
    {osl : Array (Option Value)} {N ps : List Str} {sp : Sp} (hns : BaseOk K mg base) (htr : P.given.tree = none) (lk : K.lookup f = some ⟨oc, od, .func (PySem.W.fnOf name qual params body scope dV kV doc pm an cdv ct), osl⟩) (hcd : PySem.W.codeIn K cdv qual = true) (S : FnScope N ps scope)
    (len : ∀ vs H Q E, sp vs H Q E → vs.length = ps.length)
    (hbody : ∀ (A : Around) (outer : List Env) (s : Shared) (H : Hp) (vs : List V) (Q : VK) (E : XK), Amb k (cxOf CX P w K mg base N qual scope f cdv A outer s H E) → sp vs H Q E →
      ∃ t, PSs (cxOf CX P w K mg base N qual scope f cdv A outer s H E) body t ∧ t { nx := fun _ H' => Q .non H', rt := Q } (L2.start N vs) H) :
    Fnn P w K mg base CX (k + 1) f (PySem.W.fnOf name qual params body scope dV kV doc pm an cdv ct) ps sp := by
  refine ⟨len, fun A outer s H args us vs Q E hr e0 hb r hsp => ?_⟩
  have hl := len _ _ _ _ hsp
  have KX : K.In s.heap := e0.mod.kin.keeps fun b o e => (e0.bs b o e).1
  have lim : s.heap.NoLimit := e0.mod.nolimit.keeps fun b o e => (e0.bs b o e).1
  have hkind : ∀ y ∈ ps.zip us, scope.names.lookup y.1 = some .local ∨ (scope.names.lookup y.1 = some .cell ∧ ((cellsFrom (s.heap.objs.size + 1) scope.names []).lookup y.1).isSome = true) := fun ⟨n, v⟩ hy => by
    rcases S.par n (List.of_mem_zip hy).1 with q | q
    · exact .inl q
    · exact .inr ⟨q, PySem.W.cellsFrom_some _ _ _ (.inl q)⟩
  refine codeAny_call_function hr.room.depth (KX _ _ lk) rfl S.co S.gen rfl (PySem.W.codeRec_of KX hcd) (hb _ _ _ _ ?_)
  refine wpAny_newFunctionEnv_cells S.kind hkind fun env he s1 x => ?_
  subst he
  refine ⟨lim.keeps x.toInCall.keep, codeAny_func ?_⟩
  have amb : Amb k (cxOf CX P w K mg base N qual scope f cdv A outer s H E) := ⟨hr.deeper _, fun s' ks =>
    PySem.PylongRoom.of (e0.mod.nolimit.keeps ks) (by have := hr.dp; show A.depth + 1 + Builtin.pylongFrames < recursionLimit; have e : Builtin.pylongFrames = 100 := rfl; omega)
      (PySem.SeerAt.of (hns.seer.keeps ks) htr (PySem.Around.frames_deeper e0.frames) S.gen S.co rfl rfl), hns.tb⟩
  obtain ⟨t, ht, hq⟩ := hbody A outer s H vs Q E amb hsp
  have I : Inv (cxOf CX P w K mg base N qual scope f cdv A outer s H E) [] (L2.start N vs) H s1 := inv_start S hr.room.hd e0 hl r x
  refine wpAny_mono (ht.run [] s1 (L2.start N vs) H _ I hq) (fun fl s' hs => ?_) fun e s' hs => hs
  have fin : ∀ {σ' : L2.St} {H' : Hp} {v : V} {u : Value}, Inv (cxOf CX P w K mg base N qual scope f cdv A outer s H E) [] σ' H' s' → RelV v u → Q v H' → CE outer P w H s Q u s' :=
    fun {σ' H' v u} J rv q => ⟨v, H', J.os, J.bare, J.base, J.hok, rv, q⟩
  cases fl with
  | ret u =>
    obtain ⟨v, σ', H', J, rv, q⟩ := hs
    exact fin J rv q
  | next =>
    obtain ⟨σ', H', J, q⟩ := hs
    exact fin (v := V.non) (u := Value.none) J rfl q
  | brk =>
    obtain ⟨_, _, _, q⟩ := hs
    exact False.elim q
  | cont =>
    obtain ⟨_, _, _, q⟩ := hs
    exact False.elim q

abbrev FSpec := List Vl → List Cell → (Vl → List Cell → Prop) → Prop
abbrev GoodT := @Good Ghost.tt
def liftSp (K : PySem.W.Frag) (sp : FSpec) : Sp := fun vs H Q _ => ∃ W F A st args Qd, GoodT K W F A ⟨[], st⟩ [] H ∧ RepVs K F A args vs ∧ sp args st Qd ∧
  ∀ F' A' st' H' r u, Same F F' → A <+: A' → GoodT K W F' A' ⟨[], st'⟩ [] H' → RepV K F' A' r u → Qd r st' → Q u H'
section
variable {K : PySem.W.Frag} {W F F' : Hp} {A A' : List Addr} {m : M} {σ : L2.St} {H H' : Hp}
theorem Good.bare (G : Good K W F A m σ H) : GoodT K W F A ⟨[], m.st⟩ [] H := by
  obtain ⟨e, h, d, sl, s, l, st, nd, tb, gh⟩ := G
  exact @Good.mk Ghost.tt _ _ _ _ _ _ _ e h d rfl (fun i v e => by simp at e) l st nd tb True.intro
theorem Good.back {st' : List Cell} (G : Good K W F A m σ H) (s : Same F F') (p : A <+: A') (G' : GoodT K W F' A' ⟨[], st'⟩ [] H') : Good K W F' A' ⟨m.sl, st'⟩ σ H' := by
  obtain ⟨e', h', d', _, _, l', st', nd', tb', _⟩ := G'
  exact ⟨e', h', d', G.slen, fun i v e => let ⟨u, h1, h2⟩ := G.sl i v e; ⟨u, h1, RepV.mono s p h2⟩, l', st', nd', tb', Ghost.mono G.gh (SameO.refl _) s p⟩
end
end
section
variable {K : PySem.W.Frag} {W F F' : Hp} {A A' : List Addr} {m : M} {σ : L2.St} {H H' : Hp}
theorem Good.take (G : GoodT K W F A m σ H) (n : Nat) : GoodT K W F (A.take n) ⟨[], m.st.take n⟩ [] H := by
  have q : ∀ k c, (m.st.take n)[k]? = some c → k < n ∧ m.st[k]? = some c := fun k c e => by
    rw [List.getElem?_take] at e
    by_cases hk : k < n
    · rw [if_pos hk] at e
      exact ⟨hk, e⟩
    · rw [if_neg hk] at e
      cases e
  have ra : ∀ k, k < n → (A.take n)[k]? = A[k]? := fun k hk => by rw [List.getElem?_take, if_pos hk]
  refine ⟨G.ext, G.hid, G.dj, rfl, fun i v e => by simp at e, by simp [G.len], fun k xs e => ?_, fun j k xs ys a e1 e2 h1 h2 => ?_, G.tb, True.intro⟩
  · obtain ⟨hk, e'⟩ := q k _ e
    obtain ⟨a, vs, p1, p2⟩ := G.st k xs e'
    exact ⟨a, vs, (ra k hk).trans p1, p2⟩
  · obtain ⟨hj, e1'⟩ := q j _ e1
    obtain ⟨hk, e2'⟩ := q k _ e2
    exact G.nd j k xs ys a e1' e2' ((ra j hj).symm.trans h1) ((ra k hk).symm.trans h2)
theorem repVs_slots {args : List Vl} {vs : List V} (r : RepVs K F A args vs) (n : Nat) : ∀ (i : Nat) (v : Vl), (args.map some ++ List.replicate n none)[i]? = some (some v) → ∃ u : V, (vs.map some ++ List.replicate n (none : Option V))[i]? = some (some u) ∧ RepV K F A v u := by
  induction args generalizing vs with
  | nil =>
    intro i v e
    simp only [List.map_nil, List.nil_append, List.getElem?_replicate] at e
    split at e <;> cases e
  | cons a r' ih =>
    obtain ⟨u, us, rfl, h1, h2⟩ := r
    intro i v e
    cases i with
    | zero =>
      cases e
      exact ⟨u, rfl, h1⟩
    | succ j => exact ih h2 j v e
def retD (kp : Bool) (n : Nat) (Qd : Vl → List Cell → Prop) : Vl → M → Prop := fun v m => match v with
  | .d x => Qd (.d x) (m.st.take n)
  | .c k => if k < n then Qd (.c k) (m.st.take n) else onC m.st k fun xs => if kp = true then Qd (.c n) (m.st.take n ++ [.lst xs]) else Qd (.d (.lst xs)) (m.st.take n)
def endsOf (kp : Bool) (n : Nat) (Qd : Vl → List Cell → Prop) : DEnds := ⟨retD kp n Qd (.d .non), retD kp n Qd, fun _ => False, fun _ => False⟩
def startM (N : Nat) (args : List Vl) (st : List Cell) : M := ⟨args.map some ++ List.replicate (N - args.length) none, st⟩
theorem pre_take {A0 A' : List Addr} (p : A0 <+: A') : A'.take A0.length = A0 := by
  obtain ⟨t, rfl⟩ := p
  simp
theorem retD_ok {kp : Bool} {A0 : List Addr} {F0 : Hp} {n : Nat} {Qd : Vl → List Cell → Prop} {Q : VK} {v : Vl} {u : V} (hn : A0.length = n) (sF : Same F0 F) (p : A0 <+: A) (G : GoodT K W F A m σ H) (r : RepV K F A v u) (q : retD kp n Qd v m)
    (c : ∀ F' A' st' H' r u, Same F0 F' → A0 <+: A' → GoodT K W F' A' ⟨[], st'⟩ [] H' → RepV K F' A' r u → Qd r st' → Q u H') : Q u H := by
  have eA : A.take n = A0 := by rw [← hn]; exact pre_take p
  have G1 := G.take n
  rw [eA] at G1
  cases v with
  | d x => exact c F A0 _ H (.d x) u sF (pre_refl _) G1 r q
  | c k =>
    obtain ⟨a, ha, rfl⟩ := r
    have q' : if k < n then Qd (.c k) (m.st.take n) else onC m.st k fun xs => if kp = true then Qd (.c n) (m.st.take n ++ [.lst xs]) else Qd (.d (.lst xs)) (m.st.take n) := q
    by_cases hk : k < n
    · rw [if_pos hk] at q'
      refine c F A0 _ H (.c k) _ sF (pre_refl _) G1 ⟨a, ?_, rfl⟩ q'
      rw [← eA, List.getElem?_take, if_pos hk]
      exact ha
    · rw [if_neg hk] at q'
      obtain ⟨xs, e, q'⟩ := onC_elim q'
      · obtain ⟨a', vs, h1, h2, h3, h4, h5⟩ := G.st k xs e
        rw [ha] at h1
        cases h1
        have old : ∀ (j : Nat) (ys : List Dt) (b : Addr), (m.st.take n)[j]? = some (Cell.lst ys) → A0[j]? = some b → b ≠ a := fun j ys b e1 e2 z => by
          rw [List.getElem?_take] at e1
          by_cases hj : j < n
          · rw [if_pos hj] at e1
            have e3 : A[j]? = some b := by
              rw [← eA, List.getElem?_take, if_pos hj] at e2
              exact e2
            have := G.nd j k ys xs a e1 e (by rw [← z]; exact e3) ha
            omega
          · rw [if_neg hj] at e1
            cases e1
        have nlen : (m.st.take n).length = n := by rw [← G1.len]; exact hn
        split at q'
        · -- the caller's own
          refine c F (A0 ++ [a]) _ H (.c n) _ sF ⟨[a], rfl⟩ ?_ ⟨a, ?_, rfl⟩ q'
          · have sp : ∀ j c, (m.st.take n ++ [Cell.lst xs])[j]? = some c → (j < n ∧ (m.st.take n)[j]? = some c) ∨ (j = n ∧ c = .lst xs) := fun j c e => by
              by_cases hj : j < n
              · exact .inl ⟨hj, by rw [List.getElem?_append_left (by rw [nlen]; exact hj)] at e; exact e⟩
              · have hl := (List.getElem?_eq_some_iff.mp e).1
                rw [List.length_append, nlen, List.length_singleton] at hl
                have ej : j = n := by omega
                subst ej
                rw [List.getElem?_append_right (by rw [nlen]; exact Nat.le_refl _), nlen, Nat.sub_self] at e
                exact .inr ⟨rfl, (Option.some.inj e).symm⟩
            have aold : ∀ j, j < n → (A0 ++ [a])[j]? = A0[j]? := fun j hj => List.getElem?_append_left (by rw [hn]; exact hj)
            have anew : (A0 ++ [a])[n]? = some a := by rw [← hn]; simp
            refine ⟨G.ext, G.hid, G.dj, rfl, fun i v e => by simp at e, by rw [List.length_append, List.length_append, nlen, hn]; rfl, fun j ys e => ?_, fun i j ys zs b e1 e2 p1 p2 => ?_, G.tb, True.intro⟩
            · rcases sp j _ e with ⟨hj, e'⟩ | ⟨rfl, ec⟩
              · obtain ⟨b, ws, q1, q2⟩ := G1.st j ys e'
                exact ⟨b, ws, (aold j hj).trans q1, q2⟩
              · cases ec
                exact ⟨a, vs, anew, h2, h3, h4, h5⟩
            · rcases sp i _ e1 with ⟨hi, e1'⟩ | ⟨rfl, _⟩
              · rcases sp j _ e2 with ⟨hj, e2'⟩ | ⟨rfl, _⟩
                · exact G1.nd i j ys zs b e1' e2' ((aold i hi).symm.trans p1) ((aold j hj).symm.trans p2)
                · rw [anew] at p2
                  cases p2
                  exact (old i ys _ e1' ((aold i hi).symm.trans p1) rfl).elim
              · rcases sp j _ e2 with ⟨hj, e2'⟩ | ⟨rfl, _⟩
                · rw [anew] at p1
                  cases p1
                  exact (old j zs _ e2' ((aold j hj).symm.trans p2) rfl).elim
                · rfl
          · rw [← hn]
            simp
        · -- plain data
          have s2 : Same F (upd F a (.lst vs)) := same_upd h4
          refine c (upd F a (.lst vs)) A0 _ H (.d (.lst xs)) _ (sF.trans s2) (pre_refl _) ⟨fun b x z => ?_, G.hid, fun b x z => by rw [upd_ne (fun y => by rw [y, h5] at z; cases z)]; exact G.dj b x z, rfl, fun i v e => by simp at e, G1.len, fun j ys e' => ?_, G1.nd, fun q hq => ⟨(G.tb q hq).1, by rw [upd_ne (tab_ne (G.tb q hq).1 h2)]; exact (G.tb q hq).2.1, (G.tb q hq).2.2⟩, True.intro⟩ ?_ q'
          · by_cases hb : b = a
            · subst hb
              rw [upd_same] at z
              cases z
              exact h2
            · rw [upd_ne hb] at z
              exact G.ext _ _ z
          · obtain ⟨b, ws, q1, q2, q3, q4⟩ := G1.st j ys e'
            exact ⟨b, ws, q1, q2, Reps.mono s2 q3, by rw [upd_ne (old j ys b e' q1)]; exact q4.1, q4.2⟩
          · show Rep K _ (.lst xs) _
            simp only [Rep]
            exact ⟨a, vs, rfl, Rd.of upd_same, Reps.mono s2 h3⟩
end

section
variable [Gh : Ghost]
def dCall (sp : FSpec) (dargs : List Vl) (ts : DA) : DE := fun m Q => ts m fun vs m1 => sp (vs ++ dargs) m1.st fun r st' => Q r ⟨m1.sl, st'⟩
theorem repVs_app {K : PySem.W.Frag} {F : Hp} {A : List Addr} : ∀ {x y : List Vl} {u v : List V}, RepVs K F A x u → RepVs K F A y v → RepVs K F A (x ++ y) (u ++ v)
  | [], y, u, v, h, h' => by
    have e : u = [] := h
    rw [e]
    exact h'
  | a :: x, y, u, v, h, h' => by
    obtain ⟨u0, r, rfl, h1, h2⟩ := h
    exact ⟨u0, r ++ v, rfl, h1, repVs_app h2 h'⟩
theorem lift_call {K : PySem.W.Frag} {sp : FSpec} {dargs : List Vl} {dvs : List V} {ts : DA} {E : XK} (hd : ∀ F A, RepVs K F A dargs dvs) {σ : L2.St} {H : Hp} {Q : VK} (h : lift K (dCall sp dargs ts) σ H Q) : tCall (liftSp K sp) dvs E (liftA K ts) σ H Q := by
  obtain ⟨W, F, A, m, Qd, G, h, c⟩ := h
  refine ⟨W, F, A, m, _, G, h, fun F1 A1 vs m1 H1 s1 p1 G1 q1 us r1 => ⟨W, F1, A1, m1.st, vs ++ dargs, _, G1.bare, repVs_app r1 (hd F1 A1), q1, fun F2 A2 st2 H2 r u s2 p2 G2 r2 q2 => ?_⟩⟩
  exact c F2 A2 r _ H2 (s1.trans s2) (pre_trans p1 p2) (G1.back s2 p2 G2) q2 u r2
structure FnAt (X : Cx) (x : Str) (k : Nat) (sp : FSpec) (dargs : List Vl) : Prop where
  nd : (x == ("__debug__" : Str)) = false
  ex : ∃ (f : Addr) (fd : FuncData) (ps : List Str) (ds : List Value) (dvs : List V), Fnn X.prog X.w X.K X.mg X.base CX0 k f fd ps (liftSp X.K sp) ∧ X.mg x = some (.ref f) ∧ PySem.W.keepIn X.K (.ref f) = true ∧ Binds X.K fd ps ds ∧ Vals dvs ds ∧ ∀ F A, RepVs X.K F A dargs dvs
section
variable {X : Cx} {k : Nat} {x : Str} {p pos : Pos} {e : Expr} {es : List Expr} {ts : DA} {sp : FSpec} {dargs : List Vl}
theorem je_call (F : FnAt X x k sp dargs) (hr : GRoom k X.A) (hg : Gl X x) (ha : JA X (e :: es) ts) (he : starEach (e :: es) X.env = (false, eval e X.env) :: starEach es X.env := by rfl) (hpl : (backTo pos (starEach es X.env)).any (·.1) = false := by rfl) :
    JE X (.Call (.Name x p) (e :: es) [] pos) (dCall sp dargs ts) := by
  obtain ⟨nd, f, fd, ps, ds, dvs, F, hm, hk, hb, hd, hda⟩ := F
  exact (pn_call F hr hg hm hk hb hd pass0 ha nd he hpl).imp fun _ _ _ h => lift_call hda h
end
end
end RT

set_option maxRecDepth 100000
set_option maxHeartbeats 4000000
namespace RT
open PySem PySem.Spec PyProof.Rows L2
variable [Gh : Ghost]

inductive Tgt where
  | nm (i : Nat) | tp (is : List Nat)
def gNames : List Nat → TGs
  | [] => gNil
  | i :: r => gCons (gName i) (gNames r)
def tgH (K : PySem.W.Frag) : Tgt → TG
  | .nm i => gName i
  | .tp is => gTup K is.length (gNames is)
def setsD : List Nat → List Dt → List (Option Vl) → List (Option Vl)
  | i :: is, x :: xs, sl => setsD is xs (sl.set i (some (.d x)))
  | _, _, sl => sl
def setsV : List Nat → List V → L2.St → L2.St
  | i :: is, x :: xs, σ => setsV is xs (σ.set i (some x))
  | _, _, σ => σ
def tgD : Tgt → Vl → M → (M → Prop) → Prop
  | .nm i, v, m, Q => Q ⟨m.sl.set i (some v), m.st⟩
  | .tp is, v, m, Q => match v with
    | .d (.tup xs) => xs.length = is.length ∧ Q ⟨setsD is xs m.sl, m.st⟩
    | _ => False
def tgSlots : Tgt → List Nat
  | .nm i => [i]
  | .tp is => is
section
variable {K : PySem.W.Frag} {W F F' : Hp} {A A' : List Addr} {m : M} {σ : L2.St} {H H' : Hp}
theorem Good.sets : ∀ {is : List Nat} {xs : List Dt} {vs : List V} {m : M} {σ : L2.St}, Good K W F A m σ H → Reps K F xs vs → Good K W F A ⟨setsD is xs m.sl, m.st⟩ (setsV is vs σ) H
  | [], _, _, _, _, G, _ => by
    unfold setsD setsV
    exact G
  | i :: is, [], vs, m, σ, G, r => by
    have e : vs = [] := by simpa only [Reps] using r
    rw [e]
    exact G
  | i :: is, x :: xs, vs, m, σ, G, r => by
    have e : ∃ v r', vs = v :: r' ∧ Rep K F x v ∧ Reps K F xs r' := by simpa only [Reps] using r
    obtain ⟨v, r', rfl, h1, h2⟩ := e
    have G1 := G.store (i := i) (v := .d x) (u := v) h1
    exact Good.sets (is := is) G1 h2
theorem gNames_ok {Q : L2.St → Hp → Prop} : ∀ {is : List Nat} {vs : List V} {σ : L2.St}, vs.length = is.length → Q (setsV is vs σ) H → gNames is vs σ H Q
  | [], [], _, _, q => ⟨rfl, q⟩
  | i :: is, v :: vs, σ, hl, q => ⟨v, vs, rfl, gNames_ok (is := is) (by simpa using hl) q⟩
  | [], _ :: _, _, hl, _ => by simp at hl
  | _ :: _, [], _, hl, _ => by simp at hl
theorem tg_ok {t : Tgt} {v : Vl} {u : V} {Qd : M → Prop} {Q : L2.St → Hp → Prop} (G : Good K W F A m σ H) (r : RepV K F A v u) (q : tgD t v m Qd)
    (c : ∀ m' σ', Good K W F A m' σ' H → (∀ vs : List Nat, (∀ i ∈ tgSlots t, i ∈ vs) → wipe σ' vs = wipe σ vs) → Qd m' → Q σ' H) : tgH K t u σ H Q := by
  have w1 : ∀ (vs : List Nat) (i : Nat) (o : Option V) (σ : L2.St), i ∈ vs → wipe (σ.set i o) vs = wipe σ vs := by
    intro vs
    induction vs with
    | nil =>
      intro i o σ h
      cases h
    | cons v vs ih =>
      intro i o σ h
      unfold wipe
      by_cases hv : v = i
      · subst hv
        by_cases hm : v ∈ vs
        · rw [ih v o σ hm]
        · have w2 : ∀ (vs : List Nat) (σ : L2.St), v ∉ vs → (wipe (σ.set v o) vs) = (wipe σ vs).set v o := by
            intro vs
            induction vs with
            | nil =>
              intro σ _
              rfl
            | cons z vs ih =>
              intro σ hz
              unfold wipe
              rw [ih σ (fun q => hz (List.mem_cons_of_mem _ q)), List.set_comm]
              intro e
              exact hz (by rw [e]; exact List.mem_cons_self)
          rw [w2 vs σ hm, List.set_set]
      · have hm : i ∈ vs := by
          rcases List.mem_cons.mp h with z | z
          · exact absurd z.symm hv
          · exact z
        rw [ih i o σ hm]
  cases t with
  | nm i => exact c _ _ (G.store r) (fun vs hv => w1 vs i _ σ (hv i (by unfold tgSlots; exact List.mem_singleton.mpr rfl))) q
  | tp is =>
    cases v with
    | c k => exact (show False from q).elim
    | d x =>
      cases x with
      | tup xs =>
        obtain ⟨hl, q⟩ : xs.length = is.length ∧ Qd ⟨setsD is xs m.sl, m.st⟩ := q
        have r' : Rep K F (.tup xs) u := r
        simp only [Rep] at r'
        obtain ⟨a, vs, rfl, hs, rs⟩ := r'
        have hlv : vs.length = is.length := by rw [← rs.length]; exact hl
        refine ⟨a, vs, rfl, seqT_mono G.ext hs, hlv, gNames_ok hlv (c _ _ (G.sets rs) (fun ws hw => ?_) q)⟩
        have go : ∀ (is : List Nat) (vs : List V) (σ : L2.St), (∀ i ∈ is, i ∈ ws) → wipe (setsV is vs σ) ws = wipe σ ws := by
          intro is
          induction is with
          | nil =>
            intro vs σ _
            cases vs <;> rfl
          | cons i is ih =>
            intro vs σ hi
            cases vs with
            | nil => rfl
            | cons v vs =>
              show wipe (setsV is vs (σ.set i (some v))) ws = wipe σ ws
              rw [ih vs _ (fun j hj => hi j (List.mem_cons_of_mem _ hj)), w1 ws i _ σ (hi i List.mem_cons_self)]
        exact go is vs σ hw
      | _ => exact (show False from q).elim
end
section
variable {X : Cx}
theorem jg_of {e : Expr} {t : Tgt} {g : TG} (h : PG X e g) (e1 : g = tgH X.K t := by rfl) : PG X e (tgH X.K t) := e1 ▸ h
end

def lockOk (lk : Option Nat) (xs : List Dt) (m : M) : Prop := match lk with
  | none => True
  | some k => m.st[k]? = some (.lst xs)
abbrev DI := M → (List Dt → Option Nat → M → Prop) → Prop
structure Walks (K : PySem.W.Frag) (J : It) (F : Hp) (A : List Addr) (xs : List Dt) (lk : Option Nat) : Prop where
  go : ∀ W F' A' m σ H i x, Same F F' → A <+: A' → Good K W F' A' m σ H → lockOk lk xs m → xs[i]? = some x → J.go i H ∧ ∀ v H', J.yld i H v H' → ∃ F2, Same F' F2 ∧ Good K W F2 A' m σ H' ∧ Rep K F2 x v
  stop : ∀ W F' A' m σ H, Same F F' → A <+: A' → Good K W F' A' m σ H → lockOk lk xs m → J.stop xs.length H
def liftI (K : PySem.W.Frag) (t : DI) : TI := fun σ H R => ∃ W F A m Qd, Good K W F A m σ H ∧ t m Qd ∧
  ∀ F' A' xs lk m' H', Same F F' → A <+: A' → Good K W F' A' m' σ H' → Qd xs lk m' → ∀ J, Walks K J F' A' xs lk → R J H'
abbrev JI (X : Cx) (tg iter : Expr) (t : DI) : Prop := PI X tg iter (liftI X.K t)
theorem _root_.L2.PI.imp {X : Cx} {tg e : Expr} {t t' : TI} (h : PI X tg e t) (f : ∀ σ H Q, t' σ H Q → t σ H Q) : PI X tg e t' := ⟨fun pins s σ H Q I q => h.run pins s σ H Q I (f _ _ _ q)⟩
section
variable {K : PySem.W.Frag}
theorem walks_list {F : Hp} {A : List Addr} {a : Addr} {vs : List V} {xs : List Dt} (s : SqL K F a vs) (r : Reps K F xs vs) : Walks K (Itl K a) F A xs none where
  go := fun W F' A' m σ H i x sF p G _ hi => by
    obtain ⟨v, hv, rv⟩ := r.get hi
    have sq : SqL K H a vs := (sF.trans G.ext).seq s
    refine ⟨⟨vs, v, sq, hv⟩, fun u H' y => ?_⟩
    obtain ⟨rfl, y⟩ := y
    have e := (y vs sq).symm.trans hv
    cases e
    exact ⟨F', Same.refl _, G, Rep.mono sF rv⟩
  stop := fun W F' A' m σ H sF p G _ => ⟨vs, (sF.trans G.ext).seq s, by rw [r.length]; exact Nat.le_refl _⟩
theorem walks_tup {F : Hp} {A : List Addr} {a : Addr} {vs : List V} {xs : List Dt} (s : SqT K F a vs) (r : Reps K F xs vs) : Walks K (Itt K a) F A xs none where
  go := fun W F' A' m σ H i x sF p G _ hi => by
    obtain ⟨v, hv, rv⟩ := r.get hi
    have sq : SqT K H a vs := seqT_mono (sF.trans G.ext) s
    refine ⟨⟨vs, v, sq, hv⟩, fun u H' y => ?_⟩
    obtain ⟨rfl, y⟩ := y
    have e := (y vs sq).symm.trans hv
    cases e
    exact ⟨F', Same.refl _, G, Rep.mono sF rv⟩
  stop := fun W F' A' m σ H sF p G _ => ⟨vs, seqT_mono (sF.trans G.ext) s, by rw [r.length]; exact Nat.le_refl _⟩
theorem walks_own {F : Hp} {A : List Addr} {a : Addr} {k : Nat} {xs : List Dt} (ha : A[k]? = some a) : Walks K (Itl K a) F A xs (some k) := by
  have at_ : ∀ {W F' A' m σ H}, A <+: A' → Good K W F' A' m σ H → lockOk (some k) xs m → ∃ vs, H a = some (.lst vs) ∧ Reps K F' xs vs := fun {W F' A' m σ H} p G l => by
    obtain ⟨a', vs, h1, h2, h3, _⟩ := G.st k xs l
    obtain ⟨t, rfl⟩ := p
    have hk := (List.getElem?_eq_some_iff.mp ha).1
    rw [List.getElem?_append_left hk, ha] at h1
    cases h1
    exact ⟨vs, h2, h3⟩
  refine ⟨fun W F' A' m σ H i x sF p G l hi => ?_, fun W F' A' m σ H sF p G l => ?_⟩
  · obtain ⟨vs, h2, r⟩ := at_ p G l
    obtain ⟨v, hv, rv⟩ := r.get hi
    refine ⟨⟨vs, v, SqL.of h2, hv⟩, fun u H' y => ?_⟩
    obtain ⟨rfl, y⟩ := y
    have e := (y vs (SqL.of h2)).symm.trans hv
    cases e
    exact ⟨F', Same.refl _, G, rv⟩
  · obtain ⟨vs, h2, r⟩ := at_ p G l
    exact ⟨vs, SqL.of h2, by rw [r.length]; exact Nat.le_refl _⟩
end

section
variable {X : Cx} {tg l : Expr} {t : DE}
def rangeD (lo : Int) : Nat → List Dt
  | 0 => []
  | n + 1 => .int lo :: rangeD (lo + 1) n
theorem rangeD_len : ∀ (n : Nat) (lo : Int), (rangeD lo n).length = n
  | 0, _ => rfl
  | n + 1, lo => by
    unfold rangeD
    rw [List.length_cons, rangeD_len n]
theorem rangeD_get : ∀ (n : Nat) (lo : Int) (i : Nat) (x : Dt), (rangeD lo n)[i]? = some x → i < n ∧ x = .int (lo + i)
  | 0, _, i, x, h => by
    unfold rangeD at h
    simp at h
  | n + 1, lo, 0, x, h => by
    unfold rangeD at h
    have e : Dt.int lo = x := Option.some.inj h
    refine ⟨Nat.succ_pos _, ?_⟩
    rw [← e]
    congr 1
    simp
  | n + 1, lo, i + 1, x, h => by
    unfold rangeD at h
    obtain ⟨h1, h2⟩ := rangeD_get n (lo + 1) i x h
    refine ⟨by omega, ?_⟩
    rw [h2]
    congr 1
    omega
theorem walks_range {K : PySem.W.Frag} {F : Hp} {A : List Addr} (lo : Int) (n : Nat) : Walks K (Itr lo n) F A (rangeD lo n) none where
  go := fun W F' A' m σ H i x sF p G _ hi => by
    obtain ⟨h1, rfl⟩ := rangeD_get n lo i x hi
    refine ⟨h1, fun u H' y => ?_⟩
    obtain ⟨rfl, rfl⟩ := y
    exact ⟨F', Same.refl _, G, rep_int⟩
  stop := fun W F' A' m σ H sF p G _ => by
    rw [rangeD_len]
    exact Nat.le_refl n
def small62 (i : Int) : Prop := -(2 ^ 62) ≤ i ∧ i < 2 ^ 62
def dRange1 (ts : DA) : DI := fun m Q => ts m fun vs m1 => match vs with
  | [.d (.int j)] => small62 j ∧ Q (rangeD 0 j.toNat) none m1
  | _ => False
def dRange2 (ts : DA) : DI := fun m Q => ts m fun vs m1 => match vs with
  | [.d (.int i), .d (.int j)] => (small62 i ∧ small62 j) ∧ Q (rangeD i (j - i).toNat) none m1
  | _ => False
variable {ts : DA}
theorem rv1 {K : PySem.W.Frag} {F : Hp} {A : List Addr} {x : Vl} {us : List V} (r : RepVs K F A [x] us) : ∃ u, us = [u] ∧ RepV K F A x u := by
  obtain ⟨u, r', rfl, h1, h2⟩ := r
  have e : r' = [] := h2
  rw [e]
  exact ⟨u, rfl, h1⟩
theorem rv2 {K : PySem.W.Frag} {F : Hp} {A : List Addr} {x y : Vl} {us : List V} (r : RepVs K F A [x, y] us) : ∃ u v, us = [u, v] ∧ RepV K F A x u ∧ RepV K F A y v := by
  obtain ⟨u, r', rfl, h1, h2⟩ := r
  obtain ⟨v, rfl, h3⟩ := rv1 h2
  exact ⟨u, v, rfl, h1, h3⟩
theorem ji_range1 {a : Expr} {p pos : Pos} (hg : Gl X "range") (hm : X.mg "range" = none) (ha : JA X [a] ts) (hs : starEach [a] X.env = [(false, eval a X.env)] := by rfl) : JI X tg (.Call (.Name "range" p) [a] [] pos) (dRange1 ts) := by
  refine (pi_range1 hg hm ha hs).imp fun σ H R hh => ?_
  obtain ⟨W, F, A, m, Qd, G, h, c⟩ := hh
  refine ⟨W, F, A, m, _, G, h, fun F1 A1 vs m1 H1 s1 p1 G1 q1 us r1 => ?_⟩
  split at q1
  · rename_i j
    obtain ⟨u, rfl, ru⟩ := rv1 r1
    have e : u = .int j := repB_int (H := H1) ru
    rw [e]
    exact ⟨j, rfl, q1.1.1, q1.1.2, c F1 A1 _ none m1 H1 s1 p1 G1 q1.2 _ (walks_range 0 j.toNat)⟩
  · exact q1.elim
theorem ji_range2 {a b : Expr} {p pos : Pos} (hg : Gl X "range") (hm : X.mg "range" = none) (ha : JA X [a, b] ts) (hs : starEach [a, b] X.env = [(false, eval a X.env), (false, eval b X.env)] := by rfl) (hs2 : starEach [b] X.env = [(false, eval b X.env)] := by rfl)
    : JI X tg (.Call (.Name "range" p) [a, b] [] pos) (dRange2 ts) := by
  refine (pi_range2 hg hm ha hs hs2).imp fun σ H R hh => ?_
  obtain ⟨W, F, A, m, Qd, G, h, c⟩ := hh
  refine ⟨W, F, A, m, _, G, h, fun F1 A1 vs m1 H1 s1 p1 G1 q1 us r1 => ?_⟩
  split at q1
  · rename_i i j
    obtain ⟨u, w, rfl, ru, rw'⟩ := rv2 r1
    have e : u = .int i := repB_int (H := H1) ru
    have e' : w = .int j := repB_int (H := H1) rw'
    rw [e, e']
    exact ⟨i, j, rfl, ⟨q1.1.1.1, q1.1.1.2, q1.1.2.1, q1.1.2.2⟩, c F1 A1 _ none m1 H1 s1 p1 G1 q1.2 _ (walks_range i (j - i).toNat)⟩
  · exact q1.elim

theorem tup_laid {K : PySem.W.Frag} {W F : Hp} {A : List Addr} {m : M} {σ : L2.St} {H : Hp} {T : Addr} {ds : List Dt} {vs : List V} (G : Good K W F A m σ H) (n : H T = none) (r : Reps K F ds vs) : ∃ F2, Same F F2 ∧ Good K W F2 A m σ (upd H T (.tup vs)) ∧ Rep K F2 (.tup ds) (.ref T) := by
  have s := same_upd (o := .tup vs) (G.ext.free n)
  refine ⟨upd F T (.tup vs), s, G.laid n, ?_⟩
  simp only [Rep]
  exact ⟨T, vs, rfl, SqT.of upd_same, Reps.mono s r⟩
def zipD : List Dt → List Dt → List Dt
  | x :: xs, y :: ys => .tup [x, y] :: zipD xs ys
  | _, _ => []
end

def dNext : DS := fun E m => E.nx m
def dSeq (t u : DS) : DS := fun E m => t ⟨fun m1 => u E m1, E.rt, E.bk, E.ct⟩ m
def dRet (t : DE) : DS := fun E m => t m fun v m1 => E.rt v m1
def dDo (t : DE) : DS := fun E m => t m fun _ m1 => E.nx m1
def dSet (i : Nat) (t : DE) : DS := fun E m => t m fun v m1 => E.nx ⟨m1.sl.set i (some v), m1.st⟩
def dIfS (c : DT) (t u : DS) : DS := fun E m => c m fun b m1 => if b = true then t E m1 else u E m1
def dWhile (c : DT) (b : DS) : DS := fun E m => ∃ W : Nat → M → Prop, (∃ n, W n m) ∧ ∀ n m, W n m →
  c m fun k m1 => if k = true then b ⟨fun m2 => ∃ n', n' < n ∧ W n' m2, E.rt, E.nx, fun m2 => ∃ n', n' < n ∧ W n' m2⟩ m1 else E.nx m1
def dLoop (g : Tgt) (b : DS) (all : List Dt) (lk : Option Nat) (E : DEnds) : List Dt → M → Prop
  | [], m => lockOk lk all m ∧ E.nx m
  | x :: xs, m => lockOk lk all m ∧ tgD g (.d x) m fun m1 => b ⟨dLoop g b all lk E xs, E.rt, E.nx, dLoop g b all lk E xs⟩ m1
def dFor (di : DI) (g : Tgt) (b : DS) : DS := fun E m => di m fun xs lk m1 => dLoop g b xs lk E xs m1
section
variable {X : Cx} {st : Stmt} {rest : List Stmt} {t u : DS} {e : Expr} {te : DE} {pos : Pos}
theorem js_nil : JSs X [] dNext := pss_nil.imp fun D σ H ⟨W, F, A, m, E, G, h, c⟩ => c.nx F A m σ H (Same.refl _) (pre_refl _) G h
theorem lift_seq {D : Ends} {σ : L2.St} {H : Hp} (h : liftS X.K (dSeq t u) D σ H) : tSeq (liftS X.K t) (liftS X.K u) D σ H := by
  obtain ⟨W, F, A, m, E, G, h, c⟩ := h
  exact ⟨W, F, A, m, _, G, h, ⟨fun F1 A1 m1 σ1 H1 s1 p1 G1 q1 => ⟨W, F1, A1, m1, E, G1, q1, c.mono s1 p1⟩, c.rt, c.bk, c.ct⟩⟩
theorem js_cons (h1 : JS X st t) (h2 : JSs X rest u) : JSs X (st :: rest) (dSeq t u) := (pss_cons h1 h2).imp fun _ _ _ h => lift_seq h
theorem js_one (h1 : JS X st t) : JSs X [st] t := pss_one h1
theorem js_ret (he : JE X e te) : JS X (.Return (some e) pos) (dRet te) := by
  refine (ps_ret he).imp fun D σ H hh => ?_
  obtain ⟨W, F, A, m, E, G, h, c⟩ := hh
  exact ⟨W, F, A, m, _, G, h, fun F1 A1 v m1 H1 s1 p1 G1 q1 u r1 => c.rt F1 A1 m1 σ H1 v u s1 p1 G1 r1 q1⟩
theorem js_do (he : JE X e te) (hs : swapsWith e none pos.line X.env = pure false := by rfl) : JS X (.Expr e pos) (dDo te) := by
  refine (ps_expr he hs).imp fun D σ H hh => ?_
  obtain ⟨W, F, A, m, E, G, h, c⟩ := hh
  exact ⟨W, F, A, m, _, G, h, fun F1 A1 v m1 H1 s1 p1 G1 q1 u r1 => c.nx F1 A1 m1 σ H1 s1 p1 G1 q1⟩
theorem lift_set {i : Nat} {D : Ends} {σ : L2.St} {H : Hp} (h : liftS X.K (dSet i te) D σ H) : tAsg (lift X.K te) (gName i) D σ H := by
  obtain ⟨W, F, A, m, E, G, h, c⟩ := h
  exact ⟨W, F, A, m, _, G, h, fun F1 A1 v m1 H1 s1 p1 G1 q1 u r1 => c.nx F1 A1 _ _ H1 s1 p1 (G1.store r1) q1⟩
theorem js_set {i : Nat} {x : Str} {pos' : Pos} (hN : X.N.Nodup) (hi : X.N[i]? = some x) (hx : Loc X.env.scope x) (he : JE X e te) (hs : swapsWith e (some (.Name x pos')) pos.line X.env = pure false := by rfl) (hf : X.fn x = true ∨ X.env.scope.names.lookup x = some .local := by first | exact .inl rfl | exact .inr rfl | assumption) :
    JS X (.Assign [.Name x pos'] e pos) (dSet i te) := (ps_set hN hi hx he hs hf).imp fun _ _ _ h => lift_set h
def dPar (i j : Nat) (ts : DA) : DS := fun E m => ts m fun vs m1 => match vs with
  | [v, w] => E.nx ⟨(m1.sl.set i (some v)).set j (some w), m1.st⟩
  | _ => False
theorem js_par {i j : Nat} {x y : Str} {a b : Expr} {ts : DA} {px py pt : Pos} {kt k2 pt2} (hc : X.calm = true) (hN : X.N.Nodup) (hi : X.N[i]? = some x) (hj : X.N[j]? = some y) (hij : i ≠ j)
    (hx : X.env.scope.names.lookup x = some .local) (hy : X.env.scope.names.lookup y = some .local) (ha : JA X [a, b] ts)
    (hw : swappedStores [.Tuple [.Name x px, .Name y py] kt pt] (.Tuple [a, b] k2 pt2) X.env = pure (some [x, y]) := by rfl)
    (hs : swapsWithSole [.Tuple [.Name x px, .Name y py] kt pt] (.Tuple [a, b] k2 pt2) pos.line X.env = pure false := by rfl) :
    JS X (.Assign [.Tuple [.Name x px, .Name y py] kt pt] (.Tuple [a, b] k2 pt2) pos) (dPar i j ts) := by
  refine (ps_par hc hN hi hj hij hx hy ha hw hs).imp fun D σ H hh => ?_
  obtain ⟨W, F, A, m, E, G, h, c⟩ := hh
  refine ⟨W, F, A, m, _, G, h, fun F1 A1 vs m1 H1 s1 p1 G1 q1 us r1 => ?_⟩
  split at q1
  · rename_i v w
    obtain ⟨a1, b1, rfl, ra, rb⟩ := rv2 r1
    exact ⟨a1, b1, rfl, c.nx F1 A1 _ _ H1 s1 p1 ((G1.store ra).store rb) q1⟩
  · exact q1.elim
def dAug (i : Nat) (r : DR2) (te : DE) : DS := fun E m => match m.sl[i]? with
  | some (some (.d x)) => te m fun v m1 => onD v fun y => r x y fun z => E.nx ⟨m1.sl.set i (some (.d z)), m1.st⟩
  | _ => False
theorem js_if {c : Expr} {a b : List Stmt} {tc : DT} (hc : JT X c tc) (ha : JSs X a t) (hb : JSs X b u) : JS X (.If c a b pos) (dIfS tc t u) := by
  refine (ps_if hc ha hb).imp fun D σ H hh => ?_
  obtain ⟨W, F, A, m, E, G, h, c⟩ := hh
  refine ⟨W, F, A, m, _, G, h, fun F1 A1 v m1 H1 s1 p1 G1 q1 => ?_⟩
  cases v with
  | true => exact ⟨W, F1, A1, m1, E, G1, q1, c.mono s1 p1⟩
  | false => exact ⟨W, F1, A1, m1, E, G1, q1, c.mono s1 p1⟩
theorem js_while {c : Expr} {body : List Stmt} {tc : DT} {tb : DS} (hp : PassesOwn (model X.prog X.w) X.A X.env X.xe) (hc : JT X c tc) (hb : JSs X body tb) : JS X (.While c body [] pos) (dWhile tc tb) := by
  refine (ps_while hp hc hb).imp fun D σ H hh => ?_
  obtain ⟨W, F, A, m, E, G, h, c⟩ := hh
  obtain ⟨Wi, ⟨n0, w0⟩, turn⟩ := h
  refine ⟨fun n σ' H' => ∃ F' A' m', Same F F' ∧ A <+: A' ∧ Good X.K W F' A' m' σ' H' ∧ Wi n m', ⟨n0, F, A, m, Same.refl _, pre_refl _, G, w0⟩, ?_⟩
  rintro n σ1 H1 ⟨F1, A1, m1, s1, p1, G1, w1⟩
  refine ⟨W, F1, A1, m1, _, G1, turn n m1 w1, fun F2 A2 k m2 H2 s2 p2 G2 q2 => ?_⟩
  cases k with
  | false => exact c.nx F2 A2 m2 _ H2 (s1.trans s2) (p1.trans p2) G2 q2
  | true =>
    refine ⟨fun σ' H' => ∃ F' A' m', Same F F' ∧ A <+: A' ∧ Good X.K W F' A' m' σ' H' ∧ ∃ n', n' < n ∧ Wi n' m', fun σ' H' hN => ?_, ?_⟩
    · obtain ⟨F', A', m', s', p', G', n', hn, w'⟩ := hN
      exact ⟨n', hn, F', A', m', s', p', G', w'⟩
    · have c' := c.mono (s1.trans s2) (p1.trans p2)
      refine ⟨W, F2, A2, m2, _, G2, q2, ⟨fun F3 A3 m3 σ3 H3 s3 p3 G3 q3 => ⟨F3, A3, m3, (s1.trans s2).trans s3, (p1.trans p2).trans p3, G3, q3⟩, c'.rt, c'.nx, fun F3 A3 m3 σ3 H3 s3 p3 G3 q3 => ⟨F3, A3, m3, (s1.trans s2).trans s3, (p1.trans p2).trans p3, G3, q3⟩⟩⟩
theorem js_for {iter tg : Expr} {body : List Stmt} {di : DI} {g : Tgt} {tb : DS} (hp : PassesOwn (model X.prog X.w) X.A X.env X.xe) (hc : X.calm = true) (hi : JI X tg iter di) (hg : PG X tg (tgH X.K g)) (hb : JSs X body tb)
    (hs : ∀ x, foldedSetIterable iter X.env x = pure x := by intro _; rfl) : JS X (.For tg iter body [] pos) (dFor di g tb) := by
  refine (ps_for hp hc hi hg hb hs).imp fun D σ H hh => ?_
  obtain ⟨W, F, A, m, E, G, h, c⟩ := hh
  refine ⟨W, F, A, m, _, G, h, fun F1 A1 xs lk m1 H1 s1 p1 G1 q1 J w => ?_⟩
  refine ⟨fun i n σ' H' => ∃ F' A' m', Same F1 F' ∧ A1 <+: A' ∧ Good X.K W F' A' m' σ' H' ∧ i + n = xs.length ∧ dLoop g tb xs lk E (xs.drop i) m',
    ⟨xs.length, F1, A1, m1, Same.refl _, pre_refl _, G1, Nat.zero_add _, q1⟩, ?_⟩
  rintro i n σ2 H2 ⟨F2, A2, m2, s2, p2, G2, en, q2⟩
  by_cases hlt : i < xs.length
  · refine .inr ?_
    have ed : xs.drop i = xs[i] :: xs.drop (i + 1) := List.drop_eq_getElem_cons hlt
    rw [ed] at q2
    obtain ⟨hl, q2⟩ : lockOk lk xs m2 ∧ tgD g (.d xs[i]) m2 fun m1 => tb ⟨dLoop g tb xs lk E (xs.drop (i + 1)), E.rt, E.nx, dLoop g tb xs lk E (xs.drop (i + 1))⟩ m1 := q2
    obtain ⟨hgo, hy⟩ := w.go W F2 A2 m2 σ2 H2 i xs[i] s2 p2 G2 hl (List.getElem?_eq_getElem hlt)
    refine ⟨hgo, fun σ' H' => ∃ F' A' m', Same F1 F' ∧ A1 <+: A' ∧ Good X.K W F' A' m' σ' H' ∧ dLoop g tb xs lk E (xs.drop (i + 1)) m', fun σ' H' hN => ?_, fun v H3 y => ?_⟩
    · obtain ⟨F', A', m', s', p', G', q'⟩ := hN
      exact ⟨n - 1, by omega, F', A', m', s', p', G', by omega, q'⟩
    · obtain ⟨F3, s3, G3, r3⟩ := hy v H3 y
      refine tg_ok G3 (v := .d xs[i]) r3 q2 fun m' σ' G' _ q' => ?_
      have c' := c.mono (s1.trans (s2.trans s3)) (p1.trans p2)
      exact ⟨W, F3, A2, m', _, G', q', ⟨fun F4 A4 m4 σ4 H4 s4 p4 G4 q4 => ⟨F4, A4, m4, s2.trans (s3.trans s4), p2.trans p4, G4, q4⟩, c'.rt, c'.nx, fun F4 A4 m4 σ4 H4 s4 p4 G4 q4 => ⟨F4, A4, m4, s2.trans (s3.trans s4), p2.trans p4, G4, q4⟩⟩⟩
  · have e : i = xs.length := by omega
    subst e
    rw [List.drop_length] at q2
    obtain ⟨hl, q2⟩ : lockOk lk xs m2 ∧ E.nx m2 := q2
    exact .inl ⟨w.stop W F2 A2 m2 σ2 H2 s2 p2 G2 hl, c.nx F2 A2 m2 σ2 H2 (s1.trans s2) (p1.trans p2) G2 q2⟩
end
end RT

set_option maxRecDepth 100000
set_option maxHeartbeats 4000000
namespace RT
open PySem PySem.Spec PyProof.Rows L2
variable [Gh : Ghost]
section
variable {X : Cx} {a b e : Expr} {es : List Expr} {ta tb t : DE} {ts : DA} {pos : Pos}

mutual
def toPy : Dt → PyData
  | .non => .none
  | .bl b => .bool b
  | .int i => .int i
  | .str s => .str s
  | .tup ds => .tuple (toPys ds)
  | .lst ds => .list (toPys ds)
def toPys : List Dt → List PyData
  | [] => []
  | d :: ds => toPy d :: toPys ds
end
theorem toPys_map : ∀ ds : List Dt, toPys ds = ds.map toPy
  | [] => rfl
  | d :: ds => by
    unfold toPys
    rw [toPys_map ds]
    rfl
mutual
theorem dp_of {K : PySem.W.Frag} {H : Hp} : ∀ {d : Dt} {v : V}, Rep K H d v → Dp K H v (toPy d)
  | .non, v, h => by
    simp only [Rep] at h
    rw [h]
    unfold toPy
    exact .non
  | .bl b, v, h => by
    simp only [Rep] at h
    rw [h]
    unfold toPy
    exact .bl b
  | .int i, v, h => by
    simp only [Rep] at h
    rw [h]
    unfold toPy
    exact .int i
  | .str s, v, h => by
    simp only [Rep] at h
    rw [h]
    unfold toPy
    exact .str s
  | .tup ds, v, h => by
    simp only [Rep] at h
    obtain ⟨a, vs, rfl, s, r⟩ := h
    unfold toPy
    exact .tup s (dps_of r)
  | .lst ds, v, h => by
    simp only [Rep] at h
    obtain ⟨a, vs, rfl, s, r⟩ := h
    unfold toPy
    exact .lst (.inl s) (dps_of r)
theorem dps_of {K : PySem.W.Frag} {H : Hp} : ∀ {ds : List Dt} {vs : List V}, Reps K H ds vs → DpAll K H vs (toPys ds)
  | [], vs, h => by
    simp only [Reps] at h
    rw [h]
    unfold toPys
    exact .nil
  | d :: ds, vs, h => by
    simp only [Reps] at h
    obtain ⟨v, r, rfl, h1, h2⟩ := h
    unfold toPys
    exact .cons (dp_of h1) (dps_of h2)
end
theorem rep_up {K : PySem.W.Frag} {F H : Hp} (s : Same F H) : ∀ {x : Dt} {u : V}, RepB K F H x u → Rep K H x u
  | .lst ds, u, h => by
    obtain ⟨a, vs, rfl, q, r⟩ := h
    simp only [Rep]
    exact ⟨a, vs, rfl, q, Reps.mono s r⟩
  | .tup ds, u, h => Rep.mono s (d := .tup ds) h
  | .non, u, h => Rep.mono s h
  | .bl _, u, h => Rep.mono s h
  | .int _, u, h => Rep.mono s h
  | .str _, u, h => Rep.mono s h
def eqD (x y : Dt) : Bool := PyData.eqv (toPy x) (toPy y)
def shD (x : Dt) : Prop := SeqAt.shaped (toPy x) = true
def rEq : DR2 := fun x y P => shD x ∧ shD y ∧ P (.bl (eqD x y))
def rNe : DR2 := fun x y P => shD x ∧ shD y ∧ P (.bl (!eqD x y))
theorem o_eq {k : Nat} (hr : GRoom k X.A) : OpD X (compareOp .Eq) rEq := ⟨_, op_eqD hr.hu, fun W F A m σ H x y u v P Q G rx ry q c =>
  ⟨_, _, dp_of (rep_up G.ext rx), dp_of (rep_up G.ext ry), q.1, q.2.1, c F H _ _ (Same.refl _) G rep_bl q.2.2⟩⟩
theorem o_ne {k : Nat} (hr : GRoom k X.A) : OpD X (compareOp .NotEq) rNe := ⟨_, op_neD hr.hu, fun W F A m σ H x y u v P Q G rx ry q c =>
  ⟨_, _, dp_of (rep_up G.ext rx), dp_of (rep_up G.ext ry), q.1, q.2.1, c F H _ _ (Same.refl _) G rep_bl q.2.2⟩⟩
def rIn (neg : Bool) : DR2 := fun x y P => match y with
  | .lst ys => shD x ∧ shD (.lst ys) ∧ P (.bl (if neg then !ys.any fun z => eqD z x else ys.any fun z => eqD z x))
  | _ => False
theorem any_py (ys : List Dt) (x : Dt) : ((toPys ys).any fun z => PyData.eqv z (toPy x)) = ys.any fun z => eqD z x := by
  rw [toPys_map, List.any_map]
  rfl
theorem o_in {k : Nat} (hr : GRoom k X.A) : OpD X (compareOp .In) (rIn false) := ⟨_, op_inD (by have := hr.room.un; omega), fun W F A m σ H x y u v P Q G rx ry q c => by
  unfold rIn at q
  split at q
  · rename_i ys
    refine ⟨_, toPys ys, dp_of (rep_up G.ext rx), ?_, q.1, ?_, ?_⟩
    · have := dp_of (rep_up G.ext ry)
      unfold toPy at this
      exact this
    · have := q.2.1
      unfold shD toPy at this
      exact this
    · rw [any_py]
      exact c F H _ _ (Same.refl _) G rep_bl q.2.2
  · exact q.elim⟩

theorem op_catR : OpR X (binaryOp .Add) (fun x y H Q => ∃ l b xs zs, x = .ref l ∧ y = .ref b ∧ Rd H l (.lst xs) ∧ Rd H b (.lst zs) ∧ xs.length + zs.length ≤ sizeLine ∧ ∀ p, H p = none → Q (.ref p) (upd H p (.lst (xs ++ zs)))) := by
  intro pins s σ H x y v u Q I rx ry h
  obtain ⟨l, b, xs, zs, rfl, rfl, hH, hB, hz, q⟩ := h
  cases rx
  cases ry
  obtain ⟨z, its, n, r, e⟩ := hH.ok I.hok
  obtain ⟨z2, its2, n2, r2, e2⟩ := hB.ok I.hok
  refine PySem.P.add_list e e2 ?_ (by rw [List.size_toArray, List.size_toArray, ← r.length, ← r2.length]; omega)
  have ea : its.toArray ++ its2.toArray = (its ++ its2).toArray := by simp
  rw [ea]
  exact ⟨.ref _, _, I.lnew (t' := s.toks) (r.append r2) (by rw [List.length_append]; omega), rfl, q _ I.fresh⟩
def dCat (own : Bool) (ta tb : DE) : DE := fun m Q => ta m fun v m1 => tb m1 fun w m2 => onV m2 v fun x => onV m2 w fun y => match x, y with
  | .lst xs, .lst ys => xs.length + ys.length ≤ sizeLine ∧ if own = true then Q (.c m2.st.length) ⟨m2.sl, m2.st ++ [.lst (xs ++ ys)]⟩ else Q (.d (.lst (xs ++ ys))) m2
  | _, _ => False
def rCatT : DR2 := fun x y P => match x, y with
  | .tup xs, .tup ys => xs.length + ys.length ≤ sizeLine ∧ P (.tup (xs ++ ys))
  | _, _ => False
theorem reps_nil {K : PySem.W.Frag} {F : Hp} {ds : List Dt} {vs : List V} (r : Reps K F ds vs) (h : vs = []) : ds = [] := by
  have := r.length
  rw [h] at this
  exact List.eq_nil_of_length_eq_zero this
theorem o_catT : OpD X (binaryOp .Add) rCatT := ⟨_, op_catA, fun W F A m σ H x y u v P Q G rx ry q c => by
  unfold rCatT at q
  split at q
  · rename_i xs ys
    obtain ⟨l, vs, rfl, hl, rl⟩ := repB_tup rx
    obtain ⟨b, ws, rfl, hb, rb⟩ := repB_tup ry
    refine ⟨l, b, vs, ws, rfl, rfl, seqT_mono G.ext hl, seqT_mono G.ext hb, by rw [← rl.length, ← rb.length]; exact q.1, fun e => ?_, fun e e2 => ?_, fun _ _ p np => ?_⟩
    · have e1 := reps_nil rl e
      subst e1
      exact c F H _ _ (Same.refl _) G ry q.2
    · have e1 := reps_nil rb e2
      subst e1
      have q2 := q.2
      rw [List.append_nil] at q2
      exact c F H _ _ (Same.refl _) G rx q2
    · obtain ⟨F2, s2, G2, r2⟩ := tup_laid G np (rl.append rb)
      exact c F2 _ _ _ s2 G2 r2 q.2
  · exact q.elim⟩

def onVs (m : M) : List Vl → (List Dt → Prop) → Prop
  | [], k => k []
  | v :: r, k => onV m v fun x => onVs m r fun xs => k (x :: xs)
def RepBs (K : PySem.W.Frag) (F H : Hp) : List Dt → List V → Prop
  | [], us => us = []
  | d :: ds, us => ∃ u r, us = u :: r ∧ RepB K F H d u ∧ RepBs K F H ds r
theorem onVs_elim {K : PySem.W.Frag} {W F : Hp} {A : List Addr} {m : M} {σ : L2.St} {H : Hp} (G : Good K W F A m σ H) : ∀ {vs : List Vl} {us : List V} {k : List Dt → Prop}, RepVs K F A vs us → onVs m vs k → ∃ xs, RepBs K F H xs us ∧ k xs
  | [], us, k, r, h => by
    have e : us = [] := r
    exact ⟨[], e, h⟩
  | v :: vs, us, k, r, h => by
    obtain ⟨u, us', rfl, r1, r2⟩ := r
    obtain ⟨x, ex, h⟩ := onV_elim h
    obtain ⟨xs, rs, h⟩ := onVs_elim G r2 h
    exact ⟨x :: xs, ⟨u, us', rfl, G.view r1 ex, rs⟩, h⟩
abbrev DRB := List Dt → (Dt → Prop) → Prop
def dBi (r : DRB) (ts : DA) : DE := fun m Q => ts m fun vs m1 => onVs m1 vs fun xs => r xs fun z => Q (.d z) m1
def BiD (X : Cx) (f : Value) (r : DRB) : Prop := ∃ R, CallR X f R ∧ ∀ (W F : Hp) (A : List Addr) (m : M) (σ : L2.St) (H : Hp) (xs : List Dt) (us : List V) (P : Dt → Prop) (Q : VK), Good X.K W F A m σ H → RepBs X.K F H xs us → r xs P →
    (∀ F' H' z w, Same F F' → Good X.K W F' A m σ H' → Rep X.K F' z w → P z → Q w H') → R us H Q
theorem lift_bi {K : PySem.W.Frag} {R : List V → Hp → VK → Prop} {r : DRB} (hR : ∀ (W F : Hp) (A : List Addr) (m : M) (σ : L2.St) (H : Hp) (xs : List Dt) (us : List V) (P : Dt → Prop) (Q : VK), Good K W F A m σ H → RepBs K F H xs us → r xs P →
    (∀ F' H' z w, Same F F' → Good K W F' A m σ H' → Rep K F' z w → P z → Q w H') → R us H Q) {σ : L2.St} {H : Hp} {Q : VK} (h : lift K (dBi r ts) σ H Q) : tCB R (liftA K ts) σ H Q := by
  obtain ⟨W, F, A, m, Qd, G, h, c⟩ := h
  refine ⟨W, F, A, m, _, G, h, fun F1 A1 vs m1 H1 s1 p1 G1 q1 us r1 => ?_⟩
  obtain ⟨xs, rs, q⟩ := onVs_elim G1 r1 q1
  exact hR W F1 A1 m1 σ H1 xs us _ Q G1 rs q fun F' H' z w s' G' rz pz => c F' A1 (.d z) m1 H' (s1.trans s') p1 G' pz w rz
theorem je_bi {x : Str} {id : String} {r : DRB} {p : Pos} (hc : BiD X (.builtin id) r) (hg : Gl X x) (hm : X.mg x = none) (hv : bootBuiltins x = some (.builtin id)) (ha : JA X (e :: es) ts) (hn : x ≠ "__name__" := by decide) (hdb : (x == ("__debug__" : Str)) = false := by decide)
    (he : starEach (e :: es) X.env = (false, eval e X.env) :: starEach es X.env := by rfl) (hpl : (backTo pos (starEach es X.env)).any (·.1) = false := by rfl) : JE X (.Call (.Name x p) (e :: es) [] pos) (dBi r ts) := by
  obtain ⟨R, hC, hR⟩ := hc
  exact (pe_callB hC hg hm hv ha hn hdb he hpl).imp fun _ _ _ h => lift_bi hR h
theorem je_bty {x : Str} {T : String} {r : DRB} {p : Pos} (hc : BiD X (.type T) r) (hg : Gl X x) (hm : X.mg x = none) (hv : bootBuiltins x = some (.type T)) (ha : JA X (e :: es) ts) (hn : x ≠ "__name__" := by decide) (hdb : (x == ("__debug__" : Str)) = false := by decide)
    (he : starEach (e :: es) X.env = (false, eval e X.env) :: starEach es X.env := by rfl) (hpl : (backTo pos (starEach es X.env)).any (·.1) = false := by rfl) : JE X (.Call (.Name x p) (e :: es) [] pos) (dBi r ts) := by
  obtain ⟨R, hC, hR⟩ := hc
  exact (pe_callTy hC hg hm hv ha hn hdb he hpl).imp fun _ _ _ h => lift_bi hR h
theorem rb1 {K : PySem.W.Frag} {F H : Hp} {x : Dt} {us : List V} (r : RepBs K F H [x] us) : ∃ u, us = [u] ∧ RepB K F H x u := by
  obtain ⟨u, r', rfl, h1, h2⟩ := r
  have e : r' = [] := h2
  rw [e]
  exact ⟨u, rfl, h1⟩
def bLen : DRB := fun xs P => match xs with
  | [.lst ys] => P (.int ys.length)
  | [.tup ys] => P (.int ys.length)
  | [.str s] => s.length ≤ sizeLine ∧ P (.int s.length)
  | _ => False
theorem b_len : BiD X (.builtin "len") bLen := ⟨_, L2.call_len, fun W F A m σ H xs us P Q G rs q c => by
  unfold bLen at q
  split at q
  · obtain ⟨u, rfl, ru⟩ := rb1 rs
    obtain ⟨l, vs, rfl, hl, rl⟩ := ru
    rw [rl.length] at q
    exact ⟨_, vs.length, rfl, .inl ⟨vs, .inl hl, rfl⟩, c F H _ _ (Same.refl _) G rep_int q⟩
  · obtain ⟨u, rfl, ru⟩ := rb1 rs
    obtain ⟨l, vs, rfl, hl, rl⟩ := repB_tup ru
    rw [rl.length] at q
    exact ⟨_, vs.length, rfl, .inr ⟨vs, seqT_mono G.ext hl, rfl⟩, c F H _ _ (Same.refl _) G rep_int q⟩
  · obtain ⟨u, rfl, ru⟩ := rb1 rs
    rw [repB_str ru]
    exact ⟨_, _, rfl, ⟨q.1, rfl⟩, c F H _ _ (Same.refl _) G rep_int q.2⟩
  · exact q.elim⟩
def bAbs : DRB := fun xs P => match xs with
  | [.int i] => P (.int (if i < 0 then -i else i))
  | _ => False
theorem b_abs : BiD X (.builtin "abs") bAbs := ⟨_, L2.call_abs, fun W F A m σ H xs us P Q G rs q c => by
  unfold bAbs at q
  split at q
  · obtain ⟨u, rfl, ru⟩ := rb1 rs
    rw [repB_int ru]
    exact ⟨_, rfl, c F H _ _ (Same.refl _) G rep_int q⟩
  · exact q.elim⟩
def bInt : DRB := fun xs P => match xs with
  | [.int i] => P (.int i)
  | [.bl k] => P (.int (if k then 1 else 0))
  | _ => False
theorem b_int : BiD X (.type "int") bInt := ⟨_, L2.call_int1, fun W F A m σ H xs us P Q G rs q c => by
  unfold bInt at q
  split at q
  · obtain ⟨u, rfl, ru⟩ := rb1 rs
    rw [repB_int ru]
    exact .inl ⟨_, rfl, c F H _ _ (Same.refl _) G rep_int q⟩
  · obtain ⟨u, rfl, ru⟩ := rb1 rs
    rw [repB_bl ru]
    exact .inr ⟨_, rfl, c F H _ _ (Same.refl _) G rep_int q⟩
  · exact q.elim⟩
theorem lst_laid {K : PySem.W.Frag} {W F : Hp} {A : List Addr} {m : M} {σ : L2.St} {H : Hp} {T : Addr} {ds : List Dt} {vs : List V} (G : Good K W F A m σ H) (n : H T = none) (r : Reps K F ds vs) : ∃ F2, Same F F2 ∧ Good K W F2 A m σ (upd H T (.lst vs)) ∧ Rep K F2 (.lst ds) (.ref T) := by
  have s := same_upd (o := .lst vs) (G.ext.free n)
  refine ⟨upd F T (.lst vs), s, G.laid n, ?_⟩
  simp only [Rep]
  exact ⟨T, vs, rfl, Rd.of upd_same, Reps.mono s r⟩
def sumI : List Dt → Option Int
  | [] => some 0
  | .int i :: r => (sumI r).map (i + ·)
  | _ :: _ => none
def bSum : DRB := fun xs P => match xs with
  | [.lst ys] => match sumI ys with
    | some n => P (.int n)
    | none => False
  | _ => False

def tyName : Dt → String
  | .non => "NoneType"
  | .bl _ => "bool"
  | .int _ => "int"
  | .str _ => "str"
  | .tup _ => "tuple"
  | .lst _ => "list"
theorem tyx_of {K : PySem.W.Frag} {F H : Hp} (s : Same F H) {x : Dt} {u : V} (r : RepB K F H x u) : TyX K H u (.type (tyName x)) := by
  cases x with
  | non =>
    rw [repB_non r]
    exact .base .non
  | bl b =>
    rw [repB_bl r]
    exact .base (.bl b)
  | int i =>
    rw [repB_int r]
    exact .base (.int i)
  | str z =>
    rw [repB_str r]
    exact .base (.str z)
  | lst ds =>
    obtain ⟨l, vs, rfl, hl, _⟩ := r
    rcases hl with h | ⟨o, h⟩
    · exact .base (.lst h)
    · exact .base (.frz h)
  | tup ds =>
    obtain ⟨l, vs, rfl, hl, _⟩ := repB_tup r
    rcases seqT_mono s hl with (h | ⟨o, h⟩) | ⟨o, its, n, h1, h2, _⟩
    · exact .base (.tup h)
    · exact .fTuple h
    · exact .kTuple h1 h2
inductive Ty where
  | tuple | int | bool | list | str
def Ty.name : Ty → String
  | .tuple => "tuple"
  | .int => "int"
  | .bool => "bool"
  | .list => "list"
  | .str => "str"
def isTy : Ty → Dt → Bool
  | .tuple, .tup _ => true
  | .int, .int _ => true
  | .int, .bl _ => true
  | .bool, .bl _ => true
  | .list, .lst _ => true
  | .str, .str _ => true
  | _, _ => false
def isTyN (T : Ty) (n : String) : Bool := match T with
  | .tuple => n == "tuple"
  | .int => n == "int" || n == "bool"
  | .bool => n == "bool"
  | .list => n == "list"
  | .str => n == "str"
theorem kit_0 (T : Ty) : kitB "NoneType" T.name = some (isTyN T "NoneType") := by cases T <;> decide +kernel
theorem kit_1 (T : Ty) : kitB "bool" T.name = some (isTyN T "bool") := by cases T <;> decide +kernel
theorem kit_2 (T : Ty) : kitB "int" T.name = some (isTyN T "int") := by cases T <;> decide +kernel
theorem kit_3 (T : Ty) : kitB "str" T.name = some (isTyN T "str") := by cases T <;> decide +kernel
theorem kit_4 (T : Ty) : kitB "tuple" T.name = some (isTyN T "tuple") := by cases T <;> decide +kernel
theorem kit_5 (T : Ty) : kitB "list" T.name = some (isTyN T "list") := by cases T <;> decide +kernel
theorem isTyN_of (T : Ty) (x : Dt) : isTyN T (tyName x) = isTy T x := by
  cases T <;> cases x <;> rfl
theorem isi_ok (T : Ty) (x : Dt) : kitB (tyName x) T.name = some (isTy T x) := by
  rw [← isTyN_of]
  cases x
  · exact kit_0 T
  · exact kit_1 T
  · exact kit_2 T
  · exact kit_3 T
  · exact kit_4 T
  · exact kit_5 T
def dIsi (T : Ty) (t : DE) : DE := fun m Q => t m fun v m1 => onV m1 v fun x => Q (.d (.bl (isTy T x))) m1
theorem je_isi (T : Ty) {Tn : Str} {p p2 : Pos} (hg : Gl X "isinstance") (hm : X.mg "isinstance" = none) (hgT : Gl X Tn) (hmT : X.mg Tn = none) (hvT : bootBuiltins Tn = some (.type T.name)) (ha : JE X e t)
    (hnT : Tn ≠ "__name__" := by decide) (hdT : (Tn == ("__debug__" : Str)) = false := by decide)
    (he : starEach (e :: [.Name Tn p2]) X.env = (false, eval e X.env) :: starEach [.Name Tn p2] X.env := by rfl) (hpl : (backTo pos (starEach [.Name Tn p2] X.env)).any (·.1) = false := by rfl) :
    JE X (.Call (.Name "isinstance" p) [e, .Name Tn p2] [] pos) (dIsi T t) := by
  have hT' : PE X (.Name Tn p2) (tC (.ty T.name)) := pe_bltn hgT hmT hvT rfl hnT hdT
  refine (pe_callB call_isi hg hm (by decide +kernel) (pa_cons ha (pa_cons hT' pa_nil) he) (by decide) (by decide) he hpl).imp fun σ H Q hh => ?_
  obtain ⟨W, F, A, m, Qd, G, h, c⟩ := hh
  refine ⟨W, F, A, m, _, G, h, fun F1 A1 v m1 H1 s1 p1 G1 q1 u r1 => ?_⟩
  obtain ⟨x, ex, q⟩ := onV_elim q1
  exact ⟨u, .ty T.name, .type (tyName x), .type T.name, isTy T x, rfl, .ty T.name, tyx_of G1.ext (G1.view r1 ex), kit_ty (isi_ok T x), c F1 A1 _ m1 H1 s1 p1 G1 q _ rv_bl⟩
end
end RT

set_option maxRecDepth 100000
set_option maxHeartbeats 4000000
namespace RT
open PySem PySem.Spec PyProof.Rows L2
variable [Gh : Ghost]
section
variable {X : Cx} {a b e o : Expr} {es : List Expr} {ta tb t to : DE} {ts : DA} {pos : Pos}

abbrev DO := M → (Option Int → M → Prop) → Prop
def liftO (K : PySem.W.Frag) (t : DO) : TO := fun σ H Q => ∃ W F A m Qd, Good K W F A m σ H ∧ t m Qd ∧ After K W F A σ Qd fun _ _ b H' => Q b H'
abbrev JO (X : Cx) (e : Option Expr) (t : DO) : Prop := PO X e (liftO X.K t)
theorem _root_.L2.PO.imp {X : Cx} {e : Option Expr} {t t' : TO} (h : PO X e t) (f : ∀ σ H Q, t' σ H Q → t σ H Q) : PO X e t' := ⟨fun pins s σ H Q I q => h.run pins s σ H Q I (f _ _ _ q)⟩
def dNoP : DO := fun m Q => Q none m
def dPart (t : DE) : DO := fun m Q => t m fun v m1 => match v with
  | .d (.int i) => Q (some i) m1
  | _ => False
theorem jo_none : JO X none dNoP := po_none.imp fun σ H Q ⟨W, F, A, m, Qd, G, h, c⟩ => c F A none m H (Same.refl _) (pre_refl _) G h
theorem int_elim {v : Vl} {P : Int → Prop} (h : match v with
  | .d (.int i) => P i
  | _ => False) : ∃ i, v = .d (.int i) ∧ P i := by
  split at h
  · exact ⟨_, rfl, h⟩
  · exact h.elim
theorem jo_some (h : JE X e t) : JO X (some e) (dPart t) := by
  refine (po_some h).imp fun σ H Q hh => ?_
  obtain ⟨W, F, A, m, Qd, G, h, c⟩ := hh
  refine ⟨W, F, A, m, _, G, h, fun F1 A1 v m1 H1 s1 p1 G1 q1 u r1 => ?_⟩
  obtain ⟨i, rfl, q⟩ := int_elim q1
  exact ⟨i, repB_int (H := H1) r1, c F1 A1 _ m1 H1 s1 p1 G1 q⟩
def cutD (xs : List Dt) (lo hi : Option Int) : List Dt := (xs.drop (HT.sIx xs.length 0 lo)).take (HT.sIx xs.length xs.length hi - HT.sIx xs.length 0 lo)
theorem reps_cut {K : PySem.W.Frag} {F : Hp} {xs : List Dt} {vs : List V} (r : Reps K F xs vs) (lo hi : Option Int) : Reps K F (cutD xs lo hi) (cutV vs lo hi) := by
  unfold cutD cutV
  rw [r.length]
  exact (r.drop _).take _
theorem cut_whole {K : PySem.W.Frag} {F : Hp} {xs : List Dt} {vs : List V} (r : Reps K F xs vs) {lo hi : Option Int} (h : HT.sIx vs.length 0 lo = 0 ∧ HT.sIx vs.length vs.length hi = vs.length) : cutD xs lo hi = xs := by
  unfold cutD
  rw [r.length, h.1, h.2, ← r.length]
  simp
def dSl (own : Bool) (t : DE) (lo hi : DO) : DE := fun m Q => t m fun v m1 => lo m1 fun l m2 => hi m2 fun h m3 => onV m3 v fun x => match x with
  | .lst xs => if own = true then Q (.c m3.st.length) ⟨m3.sl, m3.st ++ [.lst (cutD xs l h)]⟩ else Q (.d (.lst (cutD xs l h))) m3
  | .tup xs => Q (.d (.tup (cutD xs l h))) m3
  | _ => False
theorem je_sl (own : Bool) {lo hi : Option Expr} {tl th : DO} {p2 : Pos} (he : JE X e t) (hl : JO X lo tl) (hu : JO X hi th) : JE X (.Subscript e (.Slice lo hi none p2) pos) (dSl own t tl th) := by
  refine (pe_slice (sl_list.or sl_tupA) he hl hu).imp fun σ H Q hh => ?_
  obtain ⟨W, F, A, m, Qd, G, h, c⟩ := hh
  refine ⟨W, F, A, m, _, G, h, fun F1 A1 v m1 H1 s1 p1 G1 q1 u r1 => ⟨W, F1, A1, m1, _, G1, q1, fun F2 A2 l m2 H2 s2 p2 G2 q2 => ⟨W, F2, A2, m2, _, G2, q2, fun F3 A3 h m3 H3 s3 p3 G3 q3 => ?_⟩⟩⟩
  obtain ⟨x, ex, q3⟩ := onV_elim q3
  have rx := G3.view (RepV.mono (s2.trans s3) (p2.trans p3) r1) ex
  have s13 := s1.trans (s2.trans s3)
  have p13 := p1.trans (p2.trans p3)
  cases x with
  | lst xs =>
    obtain ⟨a, vs, rfl, hd, rs⟩ := rx
    refine .inl ⟨a, vs, rfl, .inl hd, fun p np => ?_⟩
    have q4 : if own = true then Qd (.c m3.st.length) ⟨m3.sl, m3.st ++ [.lst (cutD xs l h)]⟩ else Qd (.d (.lst (cutD xs l h))) m3 := q3
    have rc := reps_cut rs l h
    cases own with
    | true => exact c F3 (A3 ++ [p]) _ _ _ s13 (p13.trans ⟨[p], rfl⟩) (G3.own np rc) q4 _ ⟨p, by rw [← G3.len]; simp, rfl⟩
    | false =>
      obtain ⟨F4, s4, G4, r4⟩ := lst_laid G3 np rc
      exact c F4 A3 _ m3 _ (s13.trans s4) p13 G4 q4 _ r4
  | tup xs =>
    have rx' := rx
    obtain ⟨a, vs, rfl, hd, rs⟩ := repB_tup rx
    refine .inr ⟨a, vs, rfl, seqT_mono G3.ext hd, fun hw => ?_, fun hw p np => ?_⟩
    · have q4 : Qd (.d (.tup (cutD xs l h))) m3 := q3
      rw [cut_whole rs hw] at q4
      exact c F3 A3 _ m3 _ s13 p13 G3 q4 _ rx'
    · obtain ⟨F4, s4, G4, r4⟩ := tup_laid G3 np (reps_cut rs l h)
      exact c F4 A3 _ m3 _ (s13.trans s4) p13 G4 q3 _ r4
  | _ => exact (show False from q3).elim

abbrev MOp := List Dt → List Dt → (List Dt → Dt → Prop) → Prop
def dMeth (op : MOp) (to : DE) (ts : DA) : DE := fun m Q => to m fun v m1 => match v with
  | .c k => (∃ zs, m1.st[k]? = some (.lst zs)) ∧ ts m1 fun vs m2 => onDs vs fun ys => onC m2.st k fun xs => op xs ys fun xs' r => Q (.d r) ⟨m2.sl, m2.st.set k (.lst xs')⟩
  | _ => False
def MetD (X : Cx) (id : String) (op : MOp) : Prop := ∃ R, MtR X id R ∧ ∀ (F H : Hp) (a : Addr) (xs ys : List Dt) (vs us : List V) (P : List Dt → Dt → Prop) (Q : VK), H a = some (.lst vs) → Reps X.K F xs vs → Reps X.K F ys us → op xs ys P →
  (∀ xs' ws r u, Reps X.K F xs' ws → Rep X.K F r u → P xs' r → Q u (upd H a (.lst ws))) → R (.ref a) us H Q
theorem cell_elim {v : Vl} {P : Nat → Prop} (h : match v with
  | .c k => P k
  | _ => False) : ∃ k, v = .c k ∧ P k := by
  split at h
  · exact ⟨_, rfl, h⟩
  · exact h.elim
theorem je_meth {op : MOp} {id : String} {name : Str} {apos cpos : Pos} (slot : Slot "list" name id) (hty : typeOf (.builtin id) = pure (.type "method_descriptor")) (hm : MetD X id op) (ho : JE X o to) (ha : JA X (e :: es) ts)
    (hbase : attributeBase o name X.env (eval o X.env) = eval o X.env := by rfl)
    (hfew : ((backTo cpos (starEach (e :: es) X.env)).all (fun x => !x.1) && (backToKw cpos (keywordEach [] X.env)).all (fun x => x.1.isSome)
      && decide ((e :: es).length + ([] : List Keyword).length + (if ([] : List Keyword).isEmpty then 0 else 1) < 30)) = true := by rfl)
    (hline : (apos.endLine == cpos.line) = true := by rfl) (hs : starEach (e :: es) X.env = (false, eval e X.env) :: starEach es X.env := by rfl) (hplain : (backTo cpos (starEach es X.env)).any (·.1) = false := by rfl) :
    JE X (.Call (.Attribute o name apos) (e :: es) [] cpos) (dMeth op to ts) := by
  obtain ⟨R, hR, hv⟩ := hm
  refine (pe_bm PySem.F.plainAttrs_list slot hty hR ho ha hbase hfew hline hs hplain).imp fun σ H Q hh => ?_
  obtain ⟨W, F, A, m, Qd, G, h, c⟩ := hh
  refine ⟨W, F, A, m, _, G, h, fun F1 A1 v m1 H1 s1 p1 G1 q1 u r1 => ?_⟩
  obtain ⟨k, rfl, ⟨zs, ez⟩, q1⟩ := cell_elim q1
  obtain ⟨a, ha', rfl⟩ := r1
  obtain ⟨a', ws, h1, h2, _, _⟩ := G1.st k zs ez
  rw [ha'] at h1
  cases h1
  refine ⟨.inl ⟨rfl, _, SqL.of h2⟩, W, F1, A1, m1, _, G1, q1, fun F2 A2 vs m2 H2 s2 p2 G2 q2 us r2 => ?_⟩
  obtain ⟨ys, rfl, q3⟩ := onDs_elim q2
  obtain ⟨xs, ex, q2⟩ := onC_elim q3
  obtain ⟨a', vs', g1, g2, g3, _⟩ := G2.st k xs ex
  obtain ⟨_, hka, ek⟩ := RepV.mono (K := X.K) s2 p2 (show RepV X.K F1 A1 (.c k) (.ref a) from ⟨a, ha', rfl⟩)
  cases ek
  rw [hka] at g1
  cases g1
  exact hv F2 H2 a xs ys vs' us _ Q g2 g3 (reps_of r2) q2 fun xs' ws r u rw' ru pq => c F2 A2 (.d r) _ _ (s1.trans s2) (p1.trans p2) (G2.write ex hka rw') pq u ru
theorem reps1 {K : PySem.W.Frag} {F : Hp} {y : Dt} {us : List V} (r : Reps K F [y] us) : ∃ u, us = [u] ∧ Rep K F y u := by
  simp only [Reps] at r
  obtain ⟨u, r', rfl, h1, rfl⟩ := r
  exact ⟨u, rfl, h1⟩
def mAppend : MOp := fun xs ys P => match ys with
  | [y] => xs.length < sizeLine ∧ P (xs ++ [y]) .non
  | _ => False
theorem m_append : MetD X "list.append" mAppend := ⟨_, mt_append, fun F H a xs ys vs us P Q hH r r' q c => by
  unfold mAppend at q
  split at q
  · obtain ⟨u, rfl, ru⟩ := reps1 r'
    exact ⟨a, vs, u, rfl, rfl, hH, by rw [← r.length]; exact q.1, c _ _ .non .non (r.append (.cons ru .nil)) rep_non q.2⟩
  · exact q.elim⟩
def onJ (o : Option Nat) (P : Nat → Prop) : Prop := match o with
  | some j => P j
  | none => False
theorem onJ_elim {o : Option Nat} {P : Nat → Prop} (h : onJ o P) : ∃ j, o = some j ∧ P j := by
  cases o with
  | none => exact h.elim
  | some j => exact ⟨j, rfl, h⟩
def dSetIx (te to ti : DE) : DS := fun E m => te m fun v m1 => onD v fun d => to m1 fun w m2 => ti m2 fun u m3 => match w with
  | .c k => match u with
    | .d (.int i) => onC m3.st k fun xs => onJ (ixN xs.length i) fun j => E.nx ⟨m3.sl, m3.st.set k (.lst (xs.set j d))⟩
    | _ => False
  | _ => False
theorem js_setIx {te ti : DE} {tg : Expr} (he : JE X e te) (hg : PG X tg (gSub (lift X.K to) (lift X.K ti) rSetL))
    (hs : swapsWithSole [tg] e pos.line X.env = pure false := by rfl) (hw : swappedStores [tg] e X.env = pure none := by rfl)
    (h1 : (assignEach [tg] X.env).map (·.2) = [assign tg X.env] := by rfl) : JS X (.Assign [tg] e pos) (dSetIx te to ti) := by
  refine (ps_asg he hg hs hw h1).imp fun D σ H hh => ?_
  obtain ⟨W, F, A, m, E, G, h, c⟩ := hh
  refine ⟨W, F, A, m, _, G, h, fun F1 A1 v m1 H1 s1 p1 G1 q1 u r1 => ?_⟩
  obtain ⟨d, rfl, q1⟩ := onD_elim q1
  refine ⟨W, F1, A1, m1, _, G1, q1, fun F2 A2 w m2 H2 s2 p2 G2 q2 u2 r2 => ⟨W, F2, A2, m2, _, G2, q2, fun F3 A3 z m3 H3 s3 p3 G3 q3 u3 r3 => ?_⟩⟩
  obtain ⟨k, rfl, q3⟩ := cell_elim q3
  obtain ⟨i, rfl, q3⟩ := int_elim q3
  obtain ⟨xs, ex, q3⟩ := onC_elim q3
  obtain ⟨j, ej, q3⟩ := onJ_elim q3
  · obtain ⟨a, hka, rfl⟩ := RepV.mono s3 p3 r2
    obtain ⟨a', vs, g1, g2, g3, _⟩ := G3.st k xs ex
    rw [hka] at g1
    cases g1
    refine ⟨a, vs, i, j, rfl, repB_int (H := H3) r3, g2, by rw [← g3.length]; exact ej, ?_⟩
    have rd : Rep X.K F3 d u := Rep.mono (s2.trans s3) r1
    exact c.nx F3 A3 _ σ _ (s1.trans (s2.trans s3)) (p1.trans (p2.trans p3)) (G3.write ex hka (Reps.set rd j g3)) q3
end

def dLcGo (sl : List (Option Vl)) (slw : List (Option Vl)) (g : Tgt) (tt : DT) (te : DE) (all : List Dt) (lk : Option Nat) (K : List Dt → M → Prop) : List Dt → List Dt → List Cell → Prop
  | [], acc, st => lockOk lk all ⟨sl, st⟩ ∧ K acc ⟨sl, st⟩
  | x :: xs, acc, st => lockOk lk all ⟨sl, st⟩ ∧ tgD g (.d x) ⟨slw, st⟩ fun m1 => tt m1 fun b m2 => if b = true then te m2 fun v m3 => onD v fun d => acc.length < sizeLine ∧ dLcGo sl slw g tt te all lk K xs (acc ++ [d]) m3.st
    else dLcGo sl slw g tt te all lk K xs acc m2.st
def wipeD (sl : List (Option Vl)) : List Nat → List (Option Vl)
  | [] => sl
  | v :: vs => (wipeD sl vs).set v none
def dYes : DT := fun m Q => Q true m
def dLc (own : Bool) (di : DI) (g : Tgt) (tt : DT) (te : DE) (vs : List Nat) : DE := fun m Q => di m fun xs lk m1 => dLcGo m1.sl (wipeD m1.sl vs) g tt te xs lk (fun acc m2 => if own = true then Q (.c m2.st.length) ⟨m2.sl, m2.st ++ [.lst acc]⟩ else Q (.d (.lst acc)) m2) xs [] m1.st
theorem Good.wipe {K : PySem.W.Frag} {W F : Hp} {A : List Addr} {m : M} {σ : L2.St} {H : Hp} (G : Good K W F A m σ H) : ∀ vs : List Nat, Good K W F A ⟨wipeD m.sl vs, m.st⟩ (L2.wipe σ vs) H
  | [] => G
  | v :: vs => by
    have G1 := G.wipe vs
    refine ⟨G1.ext, G1.hid, G1.dj, by show ((wipeD m.sl vs).set v none).length = ((L2.wipe σ vs).set v none).length; rw [List.length_set, List.length_set]; exact G1.slen, fun i w e => ?_, G1.len, G1.st, G1.nd, G1.tb, G1.gh⟩
    have e' : ((wipeD m.sl vs).set v none)[i]? = some (some w) := e
    rw [List.getElem?_set] at e'
    show ∃ u : V, ((L2.wipe σ vs).set v none)[i]? = some (some u) ∧ _
    rw [List.getElem?_set]
    by_cases hv : v = i
    · rw [if_pos hv] at e'
      split at e' <;> cases e'
    · rw [if_neg hv] at e' ⊢
      exact G1.sl i w e'
section
variable {K : PySem.W.Frag} {W F F' : Hp} {A A' : List Addr} {m : M} {σ : L2.St} {H H' : Hp} {D : Addr} {o o' : HO}
theorem Good.hide (G : Good K W F A m σ H) (n : H D = none) : Good K (upd W D o) F A m σ (upd H D o) := by
  refine ⟨G.ext.trans (same_upd n), same_upd2 G.hid, fun b x e => ?_, G.slen, G.sl, G.len, fun k xs e => ?_, G.nd, fun q hq => ⟨tab_upd (G.tb q hq).1 n, (G.tb q hq).2.1, by rw [upd_ne (tab_some (G.tb q hq).1 n)]; exact (G.tb q hq).2.2⟩, Ghost.mono G.gh (SameO.of (same_upd (G.hid.free n))) (Same.refl _) (pre_refl _)⟩
  · by_cases hb : b = D
    · rw [hb]
      exact G.ext.free n
    · rw [upd_ne hb] at e
      exact G.dj b x e
  · obtain ⟨a, vs, h1, h2, h3, h4, h5⟩ := G.st k xs e
    have ne : a ≠ D := ne_of_none h2 n
    exact ⟨a, vs, h1, by rw [upd_ne ne]; exact h2, h3, h4, by rw [upd_ne ne]; exact h5⟩
theorem Good.rehide (G : Good K (upd W D o) F A m σ H) (hk : ¬ ObjK o := by exact id) : Good K (upd W D o') F A m σ (upd H D o') := by
  have fD : F D = none := G.dj D o upd_same
  refine ⟨fun b x e => ?_, fun b x e => ?_, fun b x e => ?_, G.slen, G.sl, G.len, fun k xs e => ?_, G.nd, fun q hq => ?_, Ghost.mono G.gh (fun a o ko e => by
    by_cases hb : a = D
    · rw [hb, upd_same] at e
      cases e
      exact (hk ko).elim
    · rw [upd_ne hb] at e ⊢
      exact e) (Same.refl _) (pre_refl _)⟩
  rotate_left 4
  · obtain ⟨⟨ps, t1, ok⟩, t2, t3⟩ := G.tb q hq
    have ne : q.2 ≠ D := fun z => by
      rw [z, upd_same] at t3
      cases t3
    exact ⟨⟨ps, by rw [upd_ne ne]; exact t1, ok⟩, t2, by rw [upd_ne ne] at t3 ⊢; exact t3⟩
  · have hb : b ≠ D := fun z => by
      rw [z, fD] at e
      cases e
    rw [upd_ne hb]
    exact G.ext _ _ e
  · by_cases hb : b = D
    · subst hb
      rw [upd_same] at e ⊢
      exact e
    · rw [upd_ne hb] at e ⊢
      exact G.hid b x (by rw [upd_ne hb]; exact e)
  · by_cases hb : b = D
    · rw [hb]
      exact fD
    · rw [upd_ne hb] at e
      exact G.dj b x (by rw [upd_ne hb]; exact e)
  · obtain ⟨a, vs, h1, h2, h3, h4, h5⟩ := G.st k xs e
    have ne : a ≠ D := fun z => by
      rw [z, upd_same] at h5
      cases h5
    exact ⟨a, vs, h1, by rw [upd_ne ne]; exact h2, h3, h4, by rw [upd_ne ne] at h5 ⊢; exact h5⟩
theorem Good.show (G : Good K (upd W D (.lst us)) F A m σ H) (nW : W D = none) (r : Reps K F xs us) : Same F (upd F D (.lst us)) ∧ Good K W (upd F D (.lst us)) A m σ H ∧ Rep K (upd F D (.lst us)) (.lst xs) (.ref D) := by
  have fD : F D = none := G.dj D _ upd_same
  have s := same_upd (o := .lst us) fD
  have sW : Same W (upd W D (.lst us)) := same_upd nW
  refine ⟨s, ⟨fun b x e => ?_, sW.trans G.hid, fun b x e => ?_, G.slen, fun i v e => ?_, G.len, fun k xs e => ?_, G.nd, fun q hq => ?_, Ghost.mono G.gh SameO.unl s (pre_refl _)⟩, ?_⟩
  rotate_left 4
  · obtain ⟨t1, t2, t3⟩ := G.tb q hq
    have ne : q.2 ≠ D := fun z => by
      rw [z, upd_same] at t3
      cases t3
    exact ⟨t1, by rw [upd_ne ne]; exact t2, by rw [upd_ne ne] at t3; exact t3⟩
  rotate_right 4
  · by_cases hb : b = D
    · subst hb
      rw [upd_same] at e
      cases e
      exact G.hid _ _ upd_same
    · rw [upd_ne hb] at e
      exact G.ext _ _ e
  · have hb : b ≠ D := fun z => by
      rw [z, nW] at e
      cases e
    rw [upd_ne hb]
    exact G.dj b x (sW _ _ e)
  · obtain ⟨u, h1, h2⟩ := G.sl i v e
    exact ⟨u, h1, RepV.mono s (pre_refl _) h2⟩
  · obtain ⟨a, vs, h1, h2, h3, h4, h5⟩ := G.st k xs e
    have ne : a ≠ D := fun z => by
      rw [z, upd_same] at h5
      cases h5
    rw [upd_ne ne] at h5
    exact ⟨a, vs, h1, h2, Reps.mono s h3, by rw [upd_ne ne]; exact h4, h5⟩
  · simp only [Rep]
    exact ⟨D, us, rfl, Rd.of upd_same, Reps.mono s r⟩
theorem Good.showOwn (G : Good K (upd W D (.lst us)) F A m σ H) (nW : W D = none) (r : Reps K F xs us) : Good K W F (A ++ [D]) ⟨m.sl, m.st ++ [.lst xs]⟩ σ H := by
  have fD : F D = none := G.dj D _ upd_same
  have hD : H D = some (.lst us) := G.hid _ _ upd_same
  have sW : Same W (upd W D (.lst us)) := same_upd nW
  have pr : A <+: A ++ [D] := ⟨[D], rfl⟩
  have at_ : ∀ k, k < m.st.length → (A ++ [D])[k]? = A[k]? := fun k hk => List.getElem?_append_left (by rw [G.len]; exact hk)
  have lst_ : (A ++ [D])[m.st.length]? = some D := by rw [← G.len]; simp
  have old : ∀ k, k < m.st.length → (m.st ++ [Cell.lst xs])[k]? = m.st[k]? := fun k hk => List.getElem?_append_left hk
  have new : ∀ k c, ¬ k < m.st.length → (m.st ++ [Cell.lst xs])[k]? = some c → k = m.st.length ∧ c = .lst xs := fun k c hk e => by
    have hk2 := (List.getElem?_eq_some_iff.mp e).1
    rw [List.length_append, List.length_singleton] at hk2
    have ek : k = m.st.length := by omega
    subst ek
    rw [List.getElem?_append_right (Nat.le_refl _), Nat.sub_self] at e
    exact ⟨rfl, (Option.some.inj e).symm⟩
  have nA : ∀ k zs, k < m.st.length → (m.st ++ [Cell.lst xs])[k]? = some (.lst zs) → (A ++ [D])[k]? = some D → False := fun k zs hk e h => by
    obtain ⟨a', _, q1, _, _, _, q5⟩ := G.st k zs ((old k hk).symm.trans e)
    rw [at_ k hk, q1] at h
    cases h
    rw [upd_same] at q5
    cases q5
  refine ⟨G.ext, sW.trans G.hid, fun b x e => G.dj b x (sW _ _ e), G.slen, fun i v e => ?_, by simp [G.len], fun k ys e => ?_, fun j k ys zs a e1 e2 h1 h2 => ?_, fun q hq => ⟨(G.tb q hq).1, (G.tb q hq).2.1, by
    have t3 := (G.tb q hq).2.2
    have ne : q.2 ≠ D := fun z => by
      rw [z, upd_same] at t3
      cases t3
    rw [upd_ne ne] at t3
    exact t3⟩, Ghost.mono G.gh SameO.unl (Same.refl _) pr⟩
  · obtain ⟨u, h1, h2⟩ := G.sl i v e
    exact ⟨u, h1, RepV.mono (Same.refl _) pr h2⟩
  · by_cases hk : k < m.st.length
    · have e' : m.st[k]? = some (.lst ys) := (old k hk).symm.trans e
      obtain ⟨a, ws, h1, h2, h3, h4, h5⟩ := G.st k ys e'
      have ne : a ≠ D := fun z => by
        rw [z, upd_same] at h5
        cases h5
      rw [upd_ne ne] at h5
      exact ⟨a, ws, (at_ k hk).trans h1, h2, h3, h4, h5⟩
    · obtain ⟨ek, ec⟩ := new k _ hk e
      subst ek
      cases ec
      exact ⟨D, us, lst_, hD, r, fD, nW⟩
  · by_cases hj : j < m.st.length
    · by_cases hk : k < m.st.length
      · exact G.nd j k ys zs a ((old j hj).symm.trans e1) ((old k hk).symm.trans e2) ((at_ j hj).symm.trans h1) ((at_ k hk).symm.trans h2)
      · obtain ⟨ek, _⟩ := new k _ hk e2
        subst ek
        rw [lst_] at h2
        cases h2
        exact (nA j ys hj e1 h1).elim
    · obtain ⟨ej, _⟩ := new j _ hj e1
      subst ej
      by_cases hk : k < m.st.length
      · rw [lst_] at h1
        cases h1
        exact (nA k zs hk e2 h2).elim
      · obtain ⟨ek, _⟩ := new k _ hk e2
        exact ek.symm
end
theorem lift_lc {K : PySem.W.Frag} (own : Bool) {di : DI} {g : Tgt} {tt : DT} {te : DE} {vs : List Nat} (hv : ∀ i ∈ tgSlots g, i ∈ vs) {σ : L2.St} {H : Hp} {Q : VK} (h : lift K (dLc own di g tt te vs) σ H Q) : tLc (liftI K di) (tgH K g) (liftT K tt) (lift K te) vs σ H Q := by
  obtain ⟨W, F, A, m, Qd, G, h, c⟩ := h
  refine ⟨W, F, A, m, _, G, h, fun F1 A1 xs lk m1 H1 s1 p1 G1 q1 J w => ?_⟩
  intro D hD
  have nW : W D = none := G1.hid.free hD
  let Kd : List Dt → M → Prop := fun acc m2 => if own = true then Qd (.c m2.st.length) ⟨m2.sl, m2.st ++ [.lst acc]⟩ else Qd (.d (.lst acc)) m2
  refine ⟨fun i n H' => ∃ F' A' st' acc us, Same F1 F' ∧ A1 <+: A' ∧ Good K (upd W D (.lst us)) F' A' ⟨m1.sl, st'⟩ σ H' ∧ Reps K F' acc us ∧ i + n = xs.length ∧ dLcGo m1.sl (wipeD m1.sl vs) g tt te xs lk Kd (xs.drop i) acc st', ⟨xs.length, F1, A1, m1.st, [], [], Same.refl _, pre_refl _, G1.hide hD, .nil, Nat.zero_add _, q1⟩, ?_⟩
  rintro i n H2 ⟨F2, A2, st2, acc, us, s2, p2, G2, r2, en, q2⟩
  by_cases hlt : i < xs.length
  · refine .inr ?_
    have ed : xs.drop i = xs[i] :: xs.drop (i + 1) := List.drop_eq_getElem_cons hlt
    rw [ed] at q2
    obtain ⟨hl, q2⟩ := q2
    obtain ⟨hgo, hy⟩ := w.go (upd W D (.lst us)) F2 A2 ⟨m1.sl, st2⟩ σ H2 i xs[i] s2 p2 G2 hl (List.getElem?_eq_getElem hlt)
    refine ⟨hgo, fun H' => ∃ F' A' st' acc us, Same F1 F' ∧ A1 <+: A' ∧ Good K (upd W D (.lst us)) F' A' ⟨m1.sl, st'⟩ σ H' ∧ Reps K F' acc us ∧ dLcGo m1.sl (wipeD m1.sl vs) g tt te xs lk Kd (xs.drop (i + 1)) acc st', fun H' hN => ?_, fun v H3 y => ?_⟩
    · obtain ⟨F', A', st', acc', us', s', p', G', r', q'⟩ := hN
      exact ⟨n - 1, by omega, F', A', st', acc', us', s', p', G', r', by omega, q'⟩
    · obtain ⟨F3, s3, G3, r3⟩ := hy v H3 y
      have G3w := G3.wipe vs
      -- from a state within the turn back to the outer names
      have outer : ∀ {F' A' σ' m' H' us'}, Same F3 F' → A2 <+: A' → Good K (upd W D (.lst us')) F' A' m' σ' H' → Good K (upd W D (.lst us')) F' A' ⟨m1.sl, m'.st⟩ σ H' := fun {F' A' σ' m' H' us'} sF pA G' =>
        ⟨G'.ext, G'.hid, G'.dj, G1.slen, fun i v e => by
          obtain ⟨u, h1, h2⟩ := G1.sl i v e
          exact ⟨u, h1, RepV.mono (s2.trans (s3.trans sF)) (p2.trans pA) h2⟩, G'.len, G'.st, G'.nd, G'.tb, G'.gh⟩
      refine tg_ok (m := ⟨wipeD m1.sl vs, st2⟩) (v := .d xs[i]) G3w r3 q2 fun m' σ' G' hw q' => ⟨?_, ?_⟩
      · have h1 := hw vs hv
        rw [h1]
        have idem : ∀ (l : List Nat) (vs : List Nat) (σ : L2.St), (∀ i ∈ l, i ∈ vs) → L2.wipe (L2.wipe σ vs) l = L2.wipe σ vs := by
          intro l
          induction l with
          | nil =>
            intro vs σ _
            rfl
          | cons z l ih =>
            intro vs σ hz
            show (L2.wipe (L2.wipe σ vs) l).set z none = L2.wipe σ vs
            rw [ih vs σ (fun i hi => hz i (List.mem_cons_of_mem _ hi))]
            have hm : z ∈ vs := hz z List.mem_cons_self
            apply List.ext_getElem?
            intro j
            rw [List.getElem?_set]
            by_cases hj : z = j
            · rw [if_pos hj]
              subst hj
              split
              · rename_i hl
                cases q : (L2.wipe σ vs)[z]? with
                | none =>
                  rw [List.getElem?_eq_none_iff] at q
                  omega
                | some o =>
                  cases o with
                  | none => rfl
                  | some x => exact absurd hm (wipe_some q).2
              · rename_i hl
                exact (List.getElem?_eq_none_iff.mpr (by omega)).symm
            · rw [if_neg hj]
        exact idem vs vs σ (fun _ h => h)
      · refine ⟨upd W D (.lst us), F3, A2, m', _, G', q', fun F4 A4 b m4 H4 s4 p4 G4 q4 => ?_⟩
        cases b with
        | false =>
          have q5 : dLcGo m1.sl (wipeD m1.sl vs) g tt te xs lk Kd (xs.drop (i + 1)) acc m4.st := q4
          exact ⟨F4, A4, m4.st, acc, us, s2.trans (s3.trans s4), p2.trans p4, outer s4 p4 G4, Reps.mono (s3.trans s4) r2, q5⟩
        | true =>
          refine ⟨upd W D (.lst us), F4, A4, m4, _, G4, q4, fun F5 A5 z m5 H5 s5 p5 G5 q5 u5 r5 => ?_⟩
          obtain ⟨d, rfl, hsz, q5⟩ := onD_elim q5
          have hD5 : H5 D = some (.lst us) := G5.hid _ _ upd_same
          refine ⟨us, hD5, by rw [← r2.length]; exact hsz, ?_⟩
          exact ⟨F5, A5, m5.st, acc ++ [d], us ++ [u5], s2.trans (s3.trans (s4.trans s5)), p2.trans (p4.trans p5), outer (s4.trans s5) (p4.trans p5) G5.rehide,
            (Reps.mono (s3.trans (s4.trans s5)) r2).append (.cons r5 .nil), q5⟩
  · have e : i = xs.length := by omega
    subst e
    rw [List.drop_length] at q2
    obtain ⟨hl, q2⟩ := q2
    refine .inl ⟨w.stop (upd W D (.lst us)) F2 A2 ⟨m1.sl, st2⟩ σ H2 s2 p2 G2 hl, ?_⟩
    have q3 : if own = true then Qd (.c st2.length) ⟨m1.sl, st2 ++ [.lst acc]⟩ else Qd (.d (.lst acc)) ⟨m1.sl, st2⟩ := q2
    cases own with
    | true => exact c F2 (A2 ++ [D]) _ _ _ (s1.trans s2) (p1.trans (p2.trans ⟨[D], rfl⟩)) (G2.showOwn nW r2) q3 _ ⟨D, by rw [← G2.len]; simp, rfl⟩
    | false =>
      obtain ⟨s3, G3, r3⟩ := G2.show nW r2
      exact c _ A2 _ _ _ (s1.trans (s2.trans s3)) (p1.trans p2) G3 q3 _ r3
abbrev JTs (X : Cx) (ifs : List Expr) (t : DT) : Prop := PTs X ifs (liftT X.K t)
section
variable {X : Cx} {pos : Pos}
theorem _root_.L2.PTs.imp {X : Cx} {e : List Expr} {t t' : TT} (h : PTs X e t) (f : ∀ σ H Q, t' σ H Q → t σ H Q) : PTs X e t' := ⟨fun pins s σ H Q I q => h.run pins s σ H Q I (f _ _ _ q)⟩
theorem jts_nil : JTs X [] dYes := pts_nil.imp fun σ H Q ⟨W, F, A, m, Qd, G, h, c⟩ => c F A true m H (Same.refl _) (pre_refl _) G h
theorem jts_one {e : Expr} {t : DT} (h : JT X e t) : JTs X [e] t := pts_one h
theorem js_setLc (own : Bool) {i : Nat} {y : Str} {py : Pos} {elt tg iter : Expr} {ifs : List Expr} {scope : Scope} {own' : List (Str × Nat)} {spos : Pos} {di : DI} {g : Tgt} {tt : DT} {te : DE} (hv : ∀ i ∈ tgSlots g, i ∈ own'.map (·.2)) (hc : X.calm = true) (hN : X.N.Nodup) (hy : X.N[i]? = some y) (hyl : X.env.scope.names.lookup y = some .local)
    (hsw : swapsWith (.ListComp elt [⟨tg, iter, ifs, 0⟩] scope pos) (some (.Name y py)) spos.line X.env = pure true) (hi : JI X tg iter di) (ok : BlkOk X.N X.env.scope scope own')
    (hg : ∀ (s : Shared) (H : Hp) (C : Addr) (cl : List (Str × Addr)) (fp : List Addr), PG (X.blk s H scope (compEnvC scope cl C X.env) fp) tg (tgH X.K g)) (ht : ∀ (s : Shared) (H : Hp) (C : Addr) (cl : List (Str × Addr)) (fp : List Addr), JTs (X.blk s H scope (compEnvC scope cl C X.env) fp) ifs tt)
    (he : ∀ (s : Shared) (H : Hp) (C : Addr) (cl : List (Str × Addr)) (fp : List Addr), JE (X.blk s H scope (compEnvC scope cl C X.env) fp) elt te) (hs : ∀ x, foldedSetIterable iter X.env x = pure x := by intro _; rfl) :
    JS X (.Assign [.Name y py] (.ListComp elt [⟨tg, iter, ifs, 0⟩] scope pos) spos) (dSet i (dLc own di g tt te (own'.map (·.2)))) := by
  refine (ps_setLc (tt := liftT X.K tt) (te := lift X.K te) hc hN hy hyl hsw hi ok hg ht he hs).imp fun D σ H hh => ?_
  have h2 : tAsg (lift X.K (dLc own di g tt te (own'.map (·.2)))) (gName i) D σ H := lift_set hh
  exact lift_lc own hv h2
end
end RT

set_option maxRecDepth 100000
set_option maxHeartbeats 4000000
namespace RT
open PySem PySem.Spec PyProof.Rows L2

def notLst (o : Obj) : Bool := match o.cls with
  | .type c => decide (c ≠ "list")
  | _ => true
def frN (g : Addr → Option Obj) (as : List Addr) : PySem.W.Frag := (He.frG g as).filter fun q => notLst q.2 && !He.emptyTab q.2
theorem frN_mem' {g : Addr → Option Obj} {as : List Addr} {a : Addr} {o : Obj} (h : (a, o) ∈ He.frG g as) : g a = some o := by
  unfold He.frG at h
  obtain ⟨b, _, e⟩ := List.mem_filterMap.mp h
  cases hb : g b with
  | none =>
    rw [hb] at e
    cases e
  | some u =>
    rw [hb] at e
    have e2 : (b, u) = (a, o) := Option.some.inj e
    injection e2 with e3 e4
    rw [← e3, ← e4]
    exact hb
theorem lookup_mem' {a : Addr} {o : Obj} : ∀ {l : List (Addr × Obj)}, l.lookup a = some o → (a, o) ∈ l
  | [], h => by cases h
  | (b, u) :: r, h => by
    have h2 : (match a == b with | true => some u | false => r.lookup a) = some o := h
    cases q : (a == b) with
    | true =>
      rw [q] at h2
      have e : u = o := Option.some.inj h2
      rw [beq_iff_eq.mp q, e]
      exact List.mem_cons_self
    | false =>
      rw [q] at h2
      exact List.mem_cons_of_mem _ (lookup_mem' h2)
theorem frN_mem {g : Addr → Option Obj} {as : List Addr} {a : Addr} {o : Obj} (h : (frN g as).lookup a = some o) : g a = some o ∧ notLst o = true ∧ He.emptyTab o = false := by
  obtain ⟨h1, h2⟩ := List.mem_filter.mp (lookup_mem' h)
  obtain ⟨h3, h4⟩ := Bool.and_eq_true_iff.mp h2
  exact ⟨frN_mem' h1, h3, by simpa using h4⟩
theorem frN_in {as : List Addr} {h : Heap} : (frN h.get? as).In h := fun _ _ e => (frN_mem e).1
def NoLst (K : PySem.W.Frag) : Prop := ∀ a o, K.lookup a = some o → notLst o = true
structure TabsOk (K : PySem.W.Frag) (h : Heap) : Prop where
  cd : ∀ q ∈ tabsK K, PySem.W.codeHdIn K q.1 q.2 = true
  out : ∀ q ∈ tabsK K, K.lookup q.2 = none
  get : ∀ q ∈ tabsK K, h.get? q.2 = some { cls := .none, data := .fields #[] }
def tabsBK (g : Addr → Option Obj) (K : PySem.W.Frag) : Bool := (tabsK K).all fun q => PySem.W.codeHdIn K q.1 q.2 && (match g q.2 with
  | some o => He.emptyTab o
  | none => false)
theorem tabsBK_ok {as : List Addr} {h : Heap} (e : tabsBK h.get? (frN h.get? as) = true) : TabsOk (frN h.get? as) h := by
  have key : ∀ q ∈ tabsK (frN h.get? as), PySem.W.codeHdIn (frN h.get? as) q.1 q.2 = true ∧ ∃ o, h.get? q.2 = some o ∧ He.emptyTab o = true := fun q hq => by
    obtain ⟨h3, h4⟩ := Bool.and_eq_true_iff.mp (List.all_eq_true.mp e q hq)
    refine ⟨h3, ?_⟩
    cases z : h.get? q.2 with
    | none =>
      rw [z] at h4
      cases h4
    | some o =>
      rw [z] at h4
      exact ⟨o, rfl, h4⟩
  refine ⟨fun q hq => (key q hq).1, fun q hq => ?_, fun q hq => ?_⟩
  · obtain ⟨_, o, z, t⟩ := key q hq
    cases y : (frN h.get? as).lookup q.2 with
    | none => rfl
    | some u =>
      obtain ⟨z1, _, z2⟩ := frN_mem y
      rw [z] at z1
      cases z1
      rw [t] at z2
      cases z2
  · obtain ⟨_, o, z, t⟩ := key q hq
    rw [z, He.emptyTab_eq t]
abbrev AlR : Type := Bool × He.AlD

theorem fn_dtD {P : Program} {w : World} {K : PySem.W.Frag} {mg : Str → Option Value} {base : Heap} {x qual : Str} {params : Arguments} {body : List Stmt} {scope : Scope} {dvs : List V} {kws : List (Str × V)} {f : Addr} {fd : FuncData} {N ps : List Str} {k : Nat} {sp : FSpec} {b : DS} (kp : Bool) (hns : BaseOk K mg base) (htr : P.given.tree = none)
    (F : FunD K x qual params body scope dvs kws f fd) (S : FnScope N ps scope)
    (hd : ∀ (X : Cx) (cdv : Value) (A : Around) (outer : List Env) (s : Shared) (H : Hp) (E : XK), X = (cxOf CX0 P w K mg base N qual scope f cdv A outer s H E).nox → CodeIs K f cdv → Amb k X → JSs X body b)
    (hsp : ∀ args st0 Qd, sp args st0 Qd → args.length = ps.length ∧ b (endsOf kp st0.length Qd) (startM N.length args st0)) : Fnn P w K mg base CX0 (k + 1) f fd ps (liftSp K sp) := by
  obtain ⟨oc, od, dV, kV, doc, pm, an, cdv, ct, osl, rfl, lk, hcd, _, _⟩ := F.ex
  refine fnn_of hns htr lk hcd S (fun vs H Q E h => ?_) fun A outer s H vs Q E amb h => ?_
  · obtain ⟨W, F1, A1, st1, args, Qd, G, r, q, c⟩ := h
    rw [← r.length]
    exact (hsp _ _ _ q).1
  · obtain ⟨W, F1, A1, st1, args, Qd, G, r, q, c⟩ := h
    have h1 := hd (cxOf CX0 P w K mg base N qual scope f cdv A outer s H E).nox cdv A outer s H E rfl ⟨oc, od, _, osl, lk, rfl⟩ ⟨amb.rm, amb.py, amb.tb⟩
    refine ⟨_, PSs.nox h1, ?_⟩
    have hl := r.length
    refine ⟨W, F1, A1, startM N.length args st1, endsOf kp st1.length Qd, ⟨G.ext, G.hid, G.dj, ?_, ?_, G.len, G.st, G.nd, G.tb, G.gh⟩, (hsp _ _ _ q).2, ⟨?_, ?_, ?_, ?_⟩⟩
    · unfold startM L2.start
      simp [hl]
    · intro i v e
      unfold startM at e
      unfold L2.start
      rw [← hl]
      exact repVs_slots r _ i v e
    · intro F' A' m' σ' H' s' p' G' q'
      exact retD_ok (kp := kp) (v := .d .non) (u := .non) G.len s' p' G' rv_non q' c
    · intro F' A' m' σ' H' v u s' p' G' r' q'
      exact retD_ok (kp := kp) G.len s' p' G' r' q' c
    · intro F' A' m' σ' H' _ _ _ q'
      exact q'
    · intro F' A' m' σ' H' _ _ _ q'
      exact q'

theorem law_callR {P : Program} {w : World} {K : PySem.W.Frag} {mg mb : Str → Option Value} {k : Nat} {fa a : Addr} {fd : FuncData} {x : Str} {sp : Sp} {s₁ : Shared} {vs : List Value} {ns : List Int}
    (KX : K.In s₁.heap) (nl : NoLst K) (tk : TabsOk K s₁.heap) (hns : s₁.heap.Ns mainGlobals mg) (hb : s₁.heap.Ns builtinsNs mb) (hbb : ∀ x : Str, x ≠ "__name__" → mb x = bootBuiltins x) (hlim : s₁.heap.NoLimit) (hseer : s₁.heap.NoSeer) (hg : s₁.gens = #[])
    (hbm : ∃ (bm : Addr) (ob : Obj), mg "__builtins__" = some (.ref bm) ∧ bm ≠ builtinsNs ∧ s₁.heap.get? bm = some ob ∧ ob.cls = .type "module" ∧ ob.dict = some builtinsNs ∧ ob.data = .plain)
    (ha : s₁.heap.get? a = some { cls := .type "list", data := .seq vs.toArray }) (hi : IntsAre vs ns) (hl : ns.length ≤ sizeLine) (hr : GRoom k callerA)
    (F : ∀ base : Heap, K.In base → base.Ns mainGlobals mg → BaseOk K mg base → Fnn P w K mg base CX0 k fa fd [x] sp) (hbind : ∀ (s : Shared) (u : Value), BindsTo s fd ⟨[u], []⟩ [(x, u)])
    (hsp : ∀ (H : Hp) (o : Obj), H a = some (.frz o (.lst (ns.map V.int))) → (∀ q ∈ tabsK K, H q.2 = some (.tbl #[])) → sp [.ref a] H (fun v _ => v = .bl true) E0) :
    codeAny (model P w) callerA (.call (.ref fa) ⟨[.ref a], []⟩) (fun r s' => r = .ok (.ret (.bool true)) ∧ OldK s₁.heap s'.heap ∧ s'.os = s₁.os ∧ AllBare s'.gens) s₁ := by
  have rv := vals_ints hi
  have lenV := hi.length
  have hk : K.lookup a = none := by
    cases q : K.lookup a with
    | none => rfl
    | some o =>
      have e := KX a o q
      rw [ha] at e
      have e2 := Option.some.inj e
      have := nl a o q
      rw [← e2] at this
      have z : notLst { cls := .type "list", data := .seq vs.toArray } = false := by
        show decide ("list" ≠ "list") = false
        decide
      rw [z] at this
      cases this
  have isT : ∀ b : Addr, b ∈ (tabsK K).map (·.2) → s₁.heap.get? b = some { cls := .none, data := .fields #[] } := fun b hb => by
    obtain ⟨p, hp, e⟩ := List.mem_map.mp hb
    rw [← e]
    exact tk.get p hp
  have aT : a ∉ (tabsK K).map (·.2) := fun z => by
    have q := isT a z
    rw [ha] at q
    have z' : Data.seq vs.toArray _ = Data.fields #[] := congrArg Obj.data (Option.some.inj q)
    cases z'
  have memT : ∀ p ∈ tabsK K, p.2 ∈ (tabsK K).map (·.2) := fun p hp => List.mem_map.mpr ⟨p, hp, rfl⟩
  let H : Hp := fun b => if b = a then some (.frz { cls := .type "list", data := .seq vs.toArray } (.lst (ns.map V.int))) else if b ∈ (tabsK K).map (·.2) then some (.tbl #[]) else none
  have Ha : H a = some (.frz { cls := .type "list", data := .seq vs.toArray } (.lst (ns.map V.int))) := if_pos rfl
  have Ht : ∀ b ∈ (tabsK K).map (·.2), H b = some (.tbl #[]) := fun b hb => (if_neg (show ¬ b = a from fun z => aT (z ▸ hb))).trans (if_pos hb)
  have Hn : ∀ b, b ≠ a → b ∉ (tabsK K).map (·.2) → H b = none := fun b hb hb2 => (if_neg hb).trans (if_neg hb2)
  have hok : HOk P w H s₁.heap := fun b u z => by
    by_cases hb : b = a
    · subst hb
      rw [Ha] at z
      cases z
      exact ⟨ha, by rw [List.length_map]; exact hl, vs, _, rv, ha⟩
    · by_cases hb2 : b ∈ (tabsK K).map (·.2)
      · rw [Ht b hb2] at z
        cases z
        exact isT b hb2
      · rw [Hn b hb hb2] at z
        cases z
  have base_of : ∀ {b : Addr} {o : Obj}, s₁.heap.get? b = some o → H b = none → (hidT s₁.heap H).get? b = some o := fun e n => hidT_get e n
  have noC : ∀ {b : Addr} {o : Obj}, s₁.heap.get? b = some o → o.cls ≠ .type "list" → o.cls ≠ .none → H b = none := fun {b o} e d d2 => by
    refine Hn b (fun z => ?_) fun z => ?_
    · subst z
      rw [ha] at e
      cases e
      exact absurd rfl d
    · rw [isT b z] at e
      cases e
      exact absurd rfl d2
  have noA : ∀ {b : Addr} {o : Obj} {es : Array DictEntry} {ep : Nat}, s₁.heap.get? b = some o → o.data = .dict es ep → H b = none := fun {b o es ep} e d => by
    refine Hn b (fun z => ?_) fun z => ?_
    · subst z
      rw [ha] at e
      cases e
      have d' : Data.seq vs.toArray _ = Data.dict es ep := d
      cases d'
    · rw [isT b z] at e
      cases e
      cases d
  have nsK : ∀ {b : Addr} {m : Str → Option Value}, s₁.heap.Ns b m → (hidT s₁.heap H).Ns b m := fun {b m} ⟨o, es, ep, e, d, r⟩ => ⟨o, es, ep, base_of e (noA e d), d, r⟩
  have hKb : K.In (hidT s₁.heap H) := fun b o e => base_of (KX b o e) (by
    refine Hn b (fun z => ?_) fun z => ?_
    · subst z
      rw [hk] at e
      cases e
    · obtain ⟨p, hp, ep⟩ := List.mem_map.mp z
      rw [← ep, tk.out p hp] at e
      cases e)
  have hM : Mod K mg (hidT s₁.heap H) := ⟨hKb, nsK hns, ⟨mb, nsK hb, hbb⟩, let ⟨mc, h1, h2⟩ := hlim; ⟨mc, nsK h1, h2⟩⟩
  have hS : (hidT s₁.heap H).NoSeer := ⟨let ⟨mc, a, b⟩ := hseer.statics; ⟨mc, nsK a, b⟩, let ⟨mc, a, b⟩ := hseer.mods; ⟨mc, nsK a, b⟩, let ⟨mc, a, b⟩ := hseer.imp; ⟨mc, nsK a, b⟩,
    let ⟨mg, bm, ob, a, b, c, d, e⟩ := hseer.main; ⟨mg, bm, ob, nsK a, b, base_of c (noC c (by rw [d]; decide) (by rw [d]; intro z; cases z)), d, e⟩⟩
  have TB : ∀ p ∈ tabsK K, GxR.TabB (hidT s₁.heap H) mg p.1 p.2 := fun p hp => by
    have hTp := tk.get p hp
    refine ⟨PySem.W.codeHd_of_K hKb (tk.cd p hp), ?_, fun z => ?_⟩
    · obtain ⟨bm, ob, b1, b2, b3, b4, b5, b6⟩ := hbm
      have nG : bm ≠ mainGlobals := fun q => by
        obtain ⟨o, es, ep, e, hd, _⟩ := hns
        rw [q, e] at b3
        cases b3
        rw [hd] at b6
        cases b6
      have nP : bm ≠ p.2 := fun q => by
        rw [q, hTp] at b3
        cases b3
        cases b6
      exact ⟨bm, ob, b1, b2, nG, nP, base_of b3 (noC b3 (by rw [b4]; decide) (by rw [b4]; intro z; cases z)), b4, b5, b6⟩
    · obtain ⟨o, es, ep, e, hd, _⟩ := hns
      rw [z, hTp] at e
      cases e
      cases hd
  have e0 : Env0 P w K mg (hidT s₁.heap H) callerA [] s₁ H := ⟨rfl, hM, fun b o e => of_hidT e, Nat.le_of_eq (hidT_size _ _), trivial, fun b hb => absurd (show b ∈ ([] : List Addr) from hb) (by simp), hok, .of_eq hg⟩
  refine codeAny_mono ((F _ hKb (nsK hns) ⟨hS, TB⟩).run callerA [] s₁ H ⟨[.ref a], []⟩ [.ref a] [.ref a] _ _ hr e0 (hbind s₁ (.ref a)) (.cons rfl .nil) (hsp H _ Ha fun q hq => Ht _ (memT q hq))) fun r s' h => ?_
  cases r with
  | error e => exact (show False from h).elim
  | ok fl =>
    cases fl with
    | next => exact False.elim h
    | brk => exact False.elim h
    | cont => exact False.elim h
    | ret u =>
      obtain ⟨v, H', os, bare, un, hok', r', q⟩ := h
      have q' : v = .bl true := q
      subst q'
      obtain rfl : u = Value.bool true := r'
      have key : ∀ b o, b ∉ (tabsK K).map (·.2) → s₁.heap.get? b = some o → s'.heap.get? b = some o := fun b o nb e => by
        by_cases hb : b = a
        · subst hb
          have z2 := un.frzs b _ _ Ha
          obtain ⟨e1, _⟩ := hok b _ Ha
          obtain ⟨e2, _⟩ := hok' b _ z2
          rw [e] at e1
          cases e1
          exact e2
        · exact un.keep b o e (Hn b hb nb) (by intro z; exact absurd (show b ∈ ([] : List Addr) from z) (by simp)) (by simp)
      have grown : ∀ p ∈ tabsK K, ∃ more : Array Value, s'.heap.get? p.2 = some { cls := .none, data := .fields more } := fun p hp => by
        obtain ⟨more, z⟩ := un.tbls p.2 #[] (Ht _ (memT p hp))
        exact ⟨_, hok' p.2 _ z⟩
      refine ⟨rfl, ⟨fun b o e => ?_, fun b o e => ?_⟩, os, bare⟩
      · by_cases hb : b ∈ (tabsK K).map (·.2)
        · obtain ⟨p, hp, ep⟩ := List.mem_map.mp hb
          obtain ⟨more, hm⟩ := grown p hp
          rw [← ep] at e ⊢
          rw [tk.get p hp] at e
          cases e
          exact .inr (.inl ⟨((PySem.W.codeHd_of_K KX (tk.cd p hp)).tab (tk.get p hp)).isCodeTable, rfl, #[], more, rfl, by rw [Array.empty_append]; exact hm⟩)
        · exact .inl (key b o hb e)
      · by_cases hb : b ∈ (tabsK K).map (·.2)
        · obtain ⟨p, hp, ep⟩ := List.mem_map.mp hb
          obtain ⟨more, hm⟩ := grown p hp
          rw [← ep]
          exact ⟨_, hm⟩
        · exact ⟨o, key b o hb e⟩
def LawD (n : Nat) (sp : FSpec) : Prop := ∀ ns : List Int, ns.length ≤ n → (∀ z ∈ ns, Builtin.Int.intBits z ≤ 1048576) → sp [.d (.lst (ns.map .int))] [] fun r _ => r = .d (.bl true)
theorem good0 {K : PySem.W.Frag} {F H : Hp} (s : Same F H) (t : ∀ q ∈ tabsK K, GxR.TabG H q.2 ∧ F q.2 = none) : Good K (fun _ => none) F [] ⟨[], []⟩ [] H where
  ext := s
  hid := fun _ _ e => nomatch e
  dj := fun _ _ e => nomatch e
  slen := rfl
  sl := fun i v e => by simp at e
  len := rfl
  st := fun k xs e => by simp at e
  nd := fun j k xs ys a e => by simp at e
  tb := fun q hq => ⟨(t q hq).1, (t q hq).2, rfl⟩
  gh := True.intro
theorem reps_ints {K : PySem.W.Frag} {F : Hp} : ∀ ns : List Int, Reps K F (ns.map .int) (ns.map V.int)
  | [] => .nil
  | n :: ns => .cons rep_int (reps_ints ns)
theorem walk_R {l : PySem.W.OpenLaw} {n k : Nat} {q : Program} {loose : List Str} {XP : (Str → Option Value) → Heap → Prop} {YP : World → Heap → Prop} {d : DefRec} {x : Str} {sp : FSpec}
    (hn : l.most = some n) (hn2 : n ≤ sizeLine) (hdf : d.params.defaults = []) (hr : GRoom k callerA) (hi : importsNone q = true) (law : LawD n sp)
    (F : ∀ (w : World) (mg : Str → Option Value) (fa : Addr) (h : Heap), YP w h → h.Ns mainGlobals mg → mg d.name = some (.ref fa) →
      ∃ (K : PySem.W.Frag) (fd : FuncData), K.In h ∧ NoLst K ∧ TabsOk K h ∧ (∀ (s : Shared) (u : Value), BindsTo s fd ⟨[u], []⟩ [(x, u)]) ∧
        ∀ base : Heap, K.In base → base.Ns mainGlobals mg → BaseOk K mg base → Fnn l.prog w K mg base CX0 k fa fd [x] (liftSp K sp)) :
    PySem.W.WalkO q loose XP YP l.row.toRowW d [] (fun f vs => PySem.call f vs) := by
  refine Att.attach_callB hn hdf fun w s₀ s₁ mg mb fa o pm cd doc a vs ns G Y ho hd hcd hmg hobj hints hlen hbits hg => ?_
  obtain ⟨K, fd, KX, nl, tk, hb, hF⟩ := F w mg fa _ Y G.T.g hmg
  refine law_callR KX nl tk G.T.g G.T.b G.T.builtins G.T.nolimit (G.T.seer hi) hg G.T.bmain hobj hints (Nat.le_trans hlen hn2) hr hF hb fun H ob hS hT => ?_
  have sF : Same (fun b => if b = a then H b else none) H := fun b o e => by
    by_cases hb : b = a
    · have e' := (if_pos hb).symm.trans e
      exact e'
    · have e' := (if_neg hb).symm.trans e
      cases e'
  refine ⟨fun _ => none, fun b => if b = a then H b else none, [], [], [.d (.lst (ns.map .int))], _, good0 sF (fun q hq => ⟨⟨#[], hT q hq, trivial⟩, if_neg (fun z => ?_)⟩), ⟨.ref a, [], rfl, ?_, rfl⟩, law ns hlen hbits, fun F' A' st' H' r u _ _ _ r' q' => ?_⟩
  · have := hT q hq
    rw [z, hS] at this
    cases this
  · show Rep K _ (.lst (ns.map .int)) (.ref a)
    simp only [Rep]
    exact ⟨a, _, rfl, .inr ⟨ob, (if_pos rfl).trans hS⟩, reps_ints ns⟩
  · rw [q'] at r'
    exact repB_bl (H := H') r'
end RT

set_option maxRecDepth 100000
set_option maxHeartbeats 4000000
namespace RT
open PySem PySem.Spec PyProof.Rows L2
section
variable [Gh : Ghost]

def rAddA : DR2 := fun x y P => match x, y with
  | .int i, .int j => P (.int (i + j))
  | .str i, .str j => i.length + j.length ≤ sizeLine ∧ P (.str (i ++ j))
  | .tup xs, .tup ys => xs.length + ys.length ≤ sizeLine ∧ P (.tup (xs ++ ys))
  | .lst xs, .lst ys => xs.length + ys.length ≤ sizeLine ∧ P (.lst (xs ++ ys))
  | _, _ => False
section
variable {X : Cx}
theorem o_addA : OpD X (binaryOp .Add) rAddA := ⟨_, (op_add.or op_add_str).or (op_catA.or op_catR), fun W F A m σ H x y u v P Q G rx ry q c => by
  unfold rAddA at q
  split at q
  · exact .inl (.inl ⟨_, _, repB_int rx, repB_int ry, c F H _ _ (Same.refl _) G rep_int q⟩)
  · exact .inl (.inr ⟨_, _, repB_str rx, repB_str ry, q.1, c F H _ _ (Same.refl _) G rep_str q.2⟩)
  · rename_i xs ys
    obtain ⟨R, hR, hv⟩ := o_catT (X := X)
    obtain ⟨l, vs, rfl, hl, rl⟩ := repB_tup rx
    obtain ⟨b, ws, rfl, hb, rb⟩ := repB_tup ry
    refine .inr (.inl ⟨l, b, vs, ws, rfl, rfl, seqT_mono G.ext hl, seqT_mono G.ext hb, by rw [← rl.length, ← rb.length]; exact q.1, fun e => ?_, fun e e2 => ?_, fun _ _ p np => ?_⟩)
    · have e1 := reps_nil rl e
      subst e1
      exact c F H _ _ (Same.refl _) G ry q.2
    · have e1 := reps_nil rb e2
      subst e1
      have q2 := q.2
      rw [List.append_nil] at q2
      exact c F H _ _ (Same.refl _) G rx q2
    · obtain ⟨F2, s2, G2, r2⟩ := tup_laid G np (rl.append rb)
      exact c F2 _ _ _ s2 G2 r2 q.2
  · rename_i xs ys
    obtain ⟨l, vs, rfl, hl, rl⟩ := rx
    obtain ⟨b, ws, rfl, hb, rb⟩ := ry
    refine .inr (.inr ⟨l, b, vs, ws, rfl, rfl, hl, hb, by rw [← rl.length, ← rb.length]; exact q.1, fun p np => ?_⟩)
    obtain ⟨F2, s2, G2, r2⟩ := lst_laid G np (rl.append rb)
    exact c F2 _ _ _ s2 G2 r2 q.2
  · exact q.elim⟩

def iAny (K : PySem.W.Frag) (tl : TE) : TI := fun σ H R => tl σ H fun x H1 => ∃ a, x = .ref a ∧ (((∃ xs, SqL K H1 a xs) ∧ R (Itl K a) H1) ∨ ((∃ xs, SqT K H1 a xs) ∧ R (Itt K a) H1))
theorem pi_any {tg l : Expr} {tl : TE} (hl : PE X l tl) : PI X tg l (iAny X.K tl) := by
  refine ⟨fun pins s σ H R I h => ?_⟩
  refine thn (hl.run pins s σ H _ I h) fun v s1 ⟨x, H1, I1, r1, a, ex, q⟩ => ?_
  subst ex
  cases r1
  rcases q with ⟨⟨xs, hs⟩, q⟩ | ⟨⟨xs, hs⟩, q⟩
  · obtain ⟨its, rv, p, hz⟩ := I1.list hs
    refine wpAny_pyIter_list p.isList ?_
    refine ⟨s1.heap.objs.size, [s1.heap.objs.size], _, _, H1, rfl, I1.kept (t' := s1.toks) fun b o e => Heap.get?_push_of_some _ e, turn_list a _, ⟨_, Heap.get?_push_size _ rfl, rfl, rfl⟩, fun b hb => ?_, q⟩
    have e : b = s1.heap.objs.size := by simpa using hb
    subst e
    exact I1.fpOk (Nat.le_refl _) (I1.hok.fresh (Nat.le_refl _))
  · obtain ⟨its, rv, p, hz⟩ := I1.tuple hs
    refine wpAny_pyIter_tuple (show s1.heap.IsTuple a its.toArray from p) ?_
    refine ⟨s1.heap.objs.size, [s1.heap.objs.size], _, _, H1, rfl, I1.kept (t' := s1.toks) fun b o e => Heap.get?_push_of_some _ e, turn_tuple a _, ⟨_, Heap.get?_push_size _ rfl, rfl, rfl⟩, fun b hb => ?_, q⟩
    have e : b = s1.heap.objs.size := by simpa using hb
    subst e
    exact I1.fpOk (Nat.le_refl _) (I1.hok.fresh (Nat.le_refl _))
def dAny (t : DE) : DI := fun m Q => t m fun v m1 => match v with
  | .d (.lst xs) => Q xs none m1
  | .d (.tup xs) => Q xs none m1
  | .c k => onC m1.st k fun xs => Q xs (some k) m1
  | _ => False
theorem ji_any {tg l : Expr} {t : DE} (hl : JE X l t) : JI X tg l (dAny t) := by
  refine (pi_any hl).imp fun σ H R hh => ?_
  obtain ⟨W, F, A, m, Qd, G, h, c⟩ := hh
  refine ⟨W, F, A, m, _, G, h, fun F1 A1 v m1 H1 s1 p1 G1 q1 u r1 => ?_⟩
  split at q1
  · rename_i xs
    have r' : Rep X.K F1 (.lst xs) u := r1
    simp only [Rep] at r'
    obtain ⟨a, vs, rfl, hs, rs⟩ := r'
    exact ⟨a, rfl, .inl ⟨⟨vs, .inl (rd_mono G1.ext hs)⟩, c F1 A1 xs none m1 H1 s1 p1 G1 q1 _ (walks_list (.inl hs) rs)⟩⟩
  · rename_i xs
    have r' : Rep X.K F1 (.tup xs) u := r1
    simp only [Rep] at r'
    obtain ⟨a, vs, rfl, hs, rs⟩ := r'
    exact ⟨a, rfl, .inr ⟨⟨vs, seqT_mono G1.ext hs⟩, c F1 A1 xs none m1 H1 s1 p1 G1 q1 _ (walks_tup hs rs)⟩⟩
  · rename_i k
    obtain ⟨xs, e, q1⟩ := onC_elim q1
    obtain ⟨a, ha, rfl⟩ := r1
    obtain ⟨a', vs, h1, h2, h3, _⟩ := G1.st k xs e
    rw [ha] at h1
    cases h1
    exact ⟨a, rfl, .inl ⟨⟨vs, SqL.of h2⟩, c F1 A1 xs (some k) m1 H1 s1 p1 G1 q1 _ (walks_own ha)⟩⟩
  · exact q1.elim

section
variable {a b e : Expr} {ta tb tc : DE} {pos : Pos} {f g : Int → Int → Bool}
end

structure SlotOk (X : Cx) (i : Nat) (x : Str) : Prop where
  hN : X.N[i]? = some x
  hl : Loc X.env.scope x
  nd : (x == ("__debug__" : Str)) = false
  nc : (x == ("__classdict__" : Str)) = false
  hf : X.fn x = true ∨ X.env.scope.names.lookup x = some .local
theorem SlotOk.vis {i : Nat} {x : Str} (s : SlotOk X i x) : Vis X.env.scope x := s.hl.elim .inl fun h => .inr (.inl h)
theorem je_v {i : Nat} {x : Str} {pos : Pos} (s : SlotOk X i x) : JE X (.Name x pos) (dVar i) := je_var i s.hN s.vis s.nd s.nc
theorem js_st {i : Nat} {x : Str} {pos pos' : Pos} {e : Expr} {te : DE} (hN : X.N.Nodup) (s : SlotOk X i x) (he : JE X e te) (hs : swapsWith e (some (.Name x pos')) pos.line X.env = pure false := by rfl) : JS X (.Assign [.Name x pos'] e pos) (dSet i te) := js_set hN s.hN s.hl he hs s.hf
theorem pg_v {i : Nat} {x : Str} {pos : Pos} (hN : X.N.Nodup) (s : SlotOk X i x) : PG X (.Name x pos) (gName i) := pg_name hN s.hN s.hl s.hf

def FnG (P : Program) (w : World) (K : PySem.W.Frag) (mg : Str → Option Value) (base : Heap) (x : Str) (k : Nat) (sp : FSpec) (dargs : List Vl) : Prop :=
  ∃ (f : Addr) (fd : FuncData) (ps : List Str) (ds : List Value) (dvs : List V), Fnn P w K mg base CX0 k f fd ps (liftSp K sp) ∧ mg x = some (.ref f) ∧ PySem.W.keepIn K (.ref f) = true ∧ Binds K fd ps ds ∧ Vals dvs ds ∧ ∀ F A, RepVs K F A dargs dvs
theorem je_cg {j k : Nat} {x : Str} {p pos : Pos} {e : Expr} {es : List Expr} {ts : DA} {sp : FSpec} {dargs : List Vl} (F : FnG X.prog X.w X.K X.mg X.base x j sp dargs) (hr : GRoom k X.A) (hg : Gl X x) (ha : JA X (e :: es) ts) (hj : j ≤ k := by decide) (nd : (x == ("__debug__" : Str)) = false := by decide)
    (he : starEach (e :: es) X.env = (false, eval e X.env) :: starEach es X.env := by rfl) (hpl : (backTo pos (starEach es X.env)).any (·.1) = false := by rfl) :
    JE X (.Call (.Name x p) (e :: es) [] pos) (dCall sp dargs ts) := je_call ⟨nd, F⟩ (hr.mono hj) hg ha he hpl
def spOf (kp : Bool) (n N : Nat) (b : DS) : FSpec := fun args st Q => args.length = n ∧ b (endsOf kp st.length Q) (startM N args st)
end
end
theorem mkG {P : Program} {w : World} {K : PySem.W.Frag} {mg : Str → Option Value} {base : Heap} {x y qual : Str} {params : Arguments} {body : List Stmt} {scope : Scope} {kws : List (Str × V)} {f : Addr} {fd : FuncData} {N ps : List Str} {k n m : Nat} {b : DS} (kp : Bool) (hns : BaseOk K mg base) (htr : P.given.tree = none)
    (F : FunD K y qual params body scope [] kws f fd) (hm : mg x = some (.ref f)) (S : FnScope N ps scope) (hn : ps.length = n) (hN : N.length = m)
    (hb : ∀ (kV doc pm : Value) (an : Option Addr) (cdv ct : Value) (us : List Value), us.length = ps.length → bindArgs (PySem.W.fnOf y qual params body scope .none kV doc pm an cdv ct) ⟨us, []⟩ = pure (ps.zip us))
    (hd : ∀ (X : Cx) (cdv : Value) (A : Around) (outer : List Env) (s : Shared) (H : Hp) (E : XK), X = (cxOf CX0 P w K mg base N qual scope f cdv A outer s H E).nox → CodeIs K f cdv → Amb k X → JSs X body b) :
    FnG P w K mg base x (k + 1) (spOf kp n m b) [] := by
  subst hn hN
  exact ⟨f, fd, ps, [], [], fn_dtD kp hns htr F S hd fun args st0 Qd h => h, hm, F.kp, F.bindsN hb, .nil, fun _ _ => rfl⟩
end RT

set_option maxRecDepth 100000
set_option maxHeartbeats 4000000
namespace RT
open PySem PySem.Spec PyProof.Rows L2
abbrev rLt : DR2 := rInt (fun _ _ => True) fun i j => .bl (decide (i < j))
abbrev rGt : DR2 := rInt (fun _ _ => True) fun i j => .bl (decide (j < i))
abbrev rGe : DR2 := rInt (fun _ _ => True) fun i j => .bl (decide (j ≤ i))
abbrev rSub : DR2 := rInt (fun _ _ => True) fun i j => .int (i - j)
abbrev rMul : DR2 := rInt MulOk fun i j => .int (i * j)
abbrev rDiv : DR2 := rInt (fun _ j => j ≠ 0) fun i j => .int (i.fdiv j)
abbrev rMod : DR2 := rInt (fun _ j => j ≠ 0) fun i j => .int (i.fmod j)
abbrev rPow : DR2 := rInt CPow fun i j => .int (i ^ j.toNat)
theorem boot_len : bootBuiltins "len" = some (.builtin "len") := by decide +kernel
theorem boot_abs : bootBuiltins "abs" = some (.builtin "abs") := by decide +kernel
theorem boot_int : bootBuiltins "int" = some (.type "int") := by decide +kernel
theorem boot_bool : bootBuiltins "bool" = some (.type "bool") := by decide +kernel
section
variable {P : Program} {w : World} {K : PySem.W.Frag} {mg : Str → Option Value} {base : Heap} {x y qual : Str} {params : Arguments} {body : List Stmt} {scope : Scope} {dvs : List V} {kws : List (Str × V)} {f : Addr} {fd : FuncData} {N ps : List Str} {k n m : Nat} {b : DS}
theorem mkGd {i : Int} (kp : Bool) (hns : BaseOk K mg base) (htr : P.given.tree = none)
    (F : FunD K y qual params body scope [.int i] kws f fd) (hm : mg x = some (.ref f)) (S : FnScope N ps scope) (hn : ps.length = n + 1) (hN : N.length = m)
    (hb : ∀ (T : Addr) (kV doc pm : Value) (an : Option Addr) (cdv ct : Value) (us its : List Value), us.length = n + 1 → its.length = 1 →
      ∃ k, bindArgs (PySem.W.fnOf y qual params body scope (.ref T) kV doc pm an cdv ct) ⟨us, []⟩ = seqItems? (.ref T) >>= k ∧ k (some its.toArray) = pure (ps.zip us))
    (hb1 : ∀ (T : Addr) (kV doc pm : Value) (an : Option Addr) (cdv ct : Value) (us its : List Value), us.length = n → its.length = 1 →
      ∃ k, bindArgs (PySem.W.fnOf y qual params body scope (.ref T) kV doc pm an cdv ct) ⟨us, []⟩ = seqItems? (.ref T) >>= k ∧ k (some its.toArray) = pure (ps.zip (us ++ its)))
    (hd : ∀ (X : Cx) (cdv : Value) (A : Around) (outer : List Env) (s : Shared) (H : Hp) (E : XK), X = (cxOf CX0 P w K mg base N qual scope f cdv A outer s H E).nox → CodeIs K f cdv → Amb k X → JSs X body b) :
    FnG P w K mg base x (k + 1) (spOf kp (n + 1) m b) [] ∧ FnG P w K mg base x (k + 1) (spOf kp (n + 1) m b) [.d (.int i)] := by
  subst hN
  have fn : Fnn P w K mg base CX0 (k + 1) f fd ps (liftSp K (spOf kp (n + 1) N.length b)) := fn_dtD kp hns htr F S hd fun args st0 Qd h => ⟨h.1.trans hn.symm, h.2⟩
  obtain ⟨ds, r, B⟩ := F.binds1 (ps := ps) (n + 1) 1 (by simp) (by simp [hn]) (fun T kV doc pm an cdv ct us its hu hi => by
    obtain ⟨k, e1, e2⟩ := hb T kV doc pm an cdv ct us its hu hi
    refine ⟨k, e1, ?_⟩
    rw [e2, List.drop_eq_nil_of_le (by rw [hi]; exact Nat.le_refl _), List.append_nil])
  obtain ⟨ds1, r1, B1⟩ := F.binds1 (ps := ps) n 0 (by simp) (by simp [hn]) (fun T kV doc pm an cdv ct us its hu hi => by
    obtain ⟨k, e1, e2⟩ := hb1 T kV doc pm an cdv ct us its hu hi
    exact ⟨k, e1, by rw [e2, List.drop_zero]⟩)
  have e : ds = [] := by
    cases r
    rfl
  subst e
  exact ⟨⟨f, fd, ps, [], [], fn, hm, F.kp, B, .nil, fun _ _ => rfl⟩, ⟨f, fd, ps, ds1, _, fn, hm, F.kp, B1, r1, fun _ _ => ⟨_, _, rfl, rv_int, rfl⟩⟩⟩
end
theorem mkF {P : Program} {w : World} {K : PySem.W.Frag} {mg : Str → Option Value} {base : Heap} {y qual : Str} {params : Arguments} {body : List Stmt} {scope : Scope} {dvs : List V} {kws : List (Str × V)} {f : Addr} {fd : FuncData} {N ps : List Str} {k n m : Nat} {b : DS} (kp : Bool) (hns : BaseOk K mg base) (htr : P.given.tree = none)
    (F : FunD K y qual params body scope dvs kws f fd) (S : FnScope N ps scope) (hn : ps.length = n) (hN : N.length = m)
    (hd : ∀ (X : Cx) (cdv : Value) (A : Around) (outer : List Env) (s : Shared) (H : Hp) (E : XK), X = (cxOf CX0 P w K mg base N qual scope f cdv A outer s H E).nox → CodeIs K f cdv → Amb k X → JSs X body b) :
    Fnn P w K mg base CX0 (k + 1) f fd ps (liftSp K (spOf kp n m b)) := by
  subst hn hN
  exact fn_dtD kp hns htr F S hd fun args st0 Qd h => h
end RT
namespace RT
open PySem PySem.Spec PyProof.Rows L2
variable [Gh : Ghost]
theorem gl_of {X : Cx} {sc : Scope} {x : Str} (e : X.env.scope = sc) (h : sc.names.lookup x = some .globalImplicit) : Gl X x := by
  show X.env.scope.names.lookup x = some .globalImplicit
  rw [e]
  exact h
theorem slot_of {X : Cx} {sc : Scope} {N : List Str} {i : Nat} {x : Str} (e : X.env.scope = sc) (eN : X.N = N) (hfn : ∀ x, X.fn x = true) (h : N[i]? = some x) (hl : sc.names.lookup x = some .local ∨ sc.names.lookup x = some .cell) (h1 : (x == ("__debug__" : Str)) = false := by decide) (h2 : (x == ("__classdict__" : Str)) = false := by decide) : SlotOk X i x :=
  ⟨by rw [eN]; exact h, by rw [e]; exact hl, h1, h2, .inl (hfn x)⟩
theorem swap_ok {X : Cx} {x y : Str} {px py pt pt2 : Pos} {kt k2 : Nat} {a b : Expr} (hk : X.env.scope.kind = .function) (hx : X.env.scope.names.lookup x = some .local) (hy : X.env.scope.names.lookup y = some .local) (hxy : ([x, y].eraseDups.length != 2) = false) (hl : (py.line == px.line) = true)
    (hs1 : (match a with | .Starred .. => true | _ => false) = false) (hs2 : (match b with | .Starred .. => true | _ => false) = false) (hf : [a, b].all (foldedForSure 8) = false) (hc : [a, b].all (constantsAlone 8) = false) :
    swappedStores [.Tuple [.Name x px, .Name y py] kt pt] (.Tuple [a, b] k2 pt2) X.env = pure (some [x, y]) := by
  have kx : X.env.kindOf x = some .local := hx
  have ky : X.env.kindOf y = some .local := hy
  have hb : X.env.blockKind = .function := by unfold Env.blockKind; rw [hk]; rfl
  unfold swappedStores
  simp only [hb, List.length_cons, List.length_nil, List.head?_cons, Option.map_some, Option.getD_some, List.filterMap_cons, List.filterMap_nil, kx, ky, Expr.pos, hl, hf, hc, List.any_cons, List.any_nil, hs1, hs2]
  simp only [beq_self_eq_true, Bool.and_self, if_true, List.length_cons, List.length_nil, hxy]
  simp [hxy, hf, hc]
  intro h
  rcases h with h | h
  · cases a <;> first | (simp at h; done) | (simp at hs1; done)
  · cases b <;> first | (simp at h; done) | (simp at hs2; done)
end RT
namespace RT
open PySem PySem.Spec PyProof.Rows L2
variable [Gh : Ghost]
def CstG (K : PySem.W.Frag) (mg : Str → Option Value) (x : Str) (d : Dt) : Prop := ∃ (v : V) (u : Value), mg x = some u ∧ RelV v u ∧ ∀ F, Rep K F d v
theorem CstG.at_ {X : Cx} {x : Str} {d : Dt} (c : CstG X.K X.mg x d) (g : Gl X x) (nd : (x == ("__debug__" : Str)) = false) : GlobD X x d := ⟨g, c, nd⟩
theorem blk_of {X : Cx} {sc : Scope} {N : List Str} {scope : Scope} {own : List (Str × Nat)} (eN : X.N = N) (eS : X.env.scope = sc) (h : blkC N sc scope own = true) : BlkOk X.N X.env.scope scope own := by
  rw [eN, eS]
  exact blkOk_by h
end RT

set_option maxRecDepth 100000
set_option maxHeartbeats 4000000
namespace RT
open PySem PySem.Spec PyProof.Rows L2
variable [Gh : Ghost]

mutual
def vB (K : PySem.W.Frag) : Dt → Value → Bool
  | .non, u => decide (u = .none)
  | .bl b, u => decide (u = .bool b)
  | .int i, u => (match u with
    | .int j _ => decide (j = i)
    | _ => false)
  | .str s, u => (match u with
    | .str t _ => decide (t = s)
    | _ => false)
  | .tup ds, u => (match u with
    | .ref a => (match K.lookup a with
      | some ⟨.type c, _, .seq its _, _⟩ => decide (c = "tuple") && (decide (its.size ≤ sizeLine) && vBs K ds its.toList)
      | _ => false)
    | _ => false)
  | .lst _, _ => false
def vBs (K : PySem.W.Frag) : List Dt → List Value → Bool
  | [], [] => true
  | d :: ds, u :: us => vB K d u && vBs K ds us
  | _, _ => false
end
theorem band {a b : Bool} (h : (a && b) = true) : a = true ∧ b = true := Bool.and_eq_true_iff.mp h
mutual
theorem vB_ok {K : PySem.W.Frag} : ∀ {d : Dt} {u : Value}, vB K d u = true → ∃ v, RelV v u ∧ ∀ F, Rep K F d v
  | .non, u, h => ⟨.non, of_decide_eq_true (p := u = .none) h, fun _ => rfl⟩
  | .bl b, u, h => ⟨.bl b, of_decide_eq_true (p := u = .bool b) h, fun _ => rfl⟩
  | .int i, u, h => by
    cases u with
    | int j t =>
      have e : j = i := of_decide_eq_true h
      subst e
      exact ⟨.int j, ⟨t, rfl⟩, fun _ => rfl⟩
    | _ => cases h
  | .str s, u, h => by
    cases u with
    | str y t =>
      have e : y = s := of_decide_eq_true h
      subst e
      exact ⟨.str y, ⟨t, rfl⟩, fun _ => rfl⟩
    | _ => cases h
  | .tup ds, u, h => by
    cases u with
    | ref a =>
      have h' : (match K.lookup a with
        | some ⟨.type c, _, .seq its _, _⟩ => decide (c = "tuple") && (decide (its.size ≤ sizeLine) && vBs K ds its.toList)
        | _ => false) = true := h
      cases q : K.lookup a with
      | none =>
        rw [q] at h'
        cases h'
      | some o =>
        obtain ⟨oc, od, dt, osl⟩ := o
        rw [q] at h'
        cases oc with
        | type c =>
          cases dt with
          | seq its n =>
            obtain ⟨h1, h2⟩ := band (show (decide (c = "tuple") && (decide (its.size ≤ sizeLine) && vBs K ds its.toList)) = true from h')
            obtain ⟨h3, h4⟩ := band h2
            obtain ⟨vs, r, p⟩ := vBs_ok h4
            exact ⟨.ref a, rfl, fun F => ⟨a, vs, rfl, .inr ⟨_, its, n, q, congrArg Value.type (of_decide_eq_true h1), rfl, of_decide_eq_true h3, r⟩, p F⟩⟩
          | _ => cases h'
        | _ => cases dt <;> cases h'
    | _ => cases h
theorem vBs_ok {K : PySem.W.Frag} : ∀ {ds : List Dt} {us : List Value}, vBs K ds us = true → ∃ vs, Vals vs us ∧ ∀ F, Reps K F ds vs
  | [], [], _ => ⟨[], .nil, fun _ => rfl⟩
  | [], _ :: _, h => by cases h
  | _ :: _, [], h => by cases h
  | d :: ds, u :: us, h => by
    obtain ⟨h1, h2⟩ := band (show (vB K d u && vBs K ds us) = true from h)
    obtain ⟨v, r, p⟩ := vB_ok h1
    obtain ⟨vs, r2, p2⟩ := vBs_ok h2
    exact ⟨v :: vs, .cons r r2, fun F => ⟨v, vs, rfl, p F, p2 F⟩⟩
end
def cstB (K : PySem.W.Frag) (x : Str) (d : Dt) : Bool := match PySem.W.nsIn K mainGlobals x with
  | some (some u) => vB K d u
  | _ => false
theorem cst_of {K : PySem.W.Frag} {h : Heap} {mg : Str → Option Value} {x : Str} {d : Dt} (X : K.In h) (G : h.Ns mainGlobals mg) (c : cstB K x d = true) : CstG K mg x d := by
  unfold cstB at c
  cases e : PySem.W.nsIn K mainGlobals x with
  | none =>
    rw [e] at c
    cases c
  | some o =>
    rw [e] at c
    cases o with
    | none => cases c
    | some u =>
      obtain ⟨v, r, p⟩ := vB_ok (show vB K d u = true from c)
      exact ⟨v, u, PySem.W.mg_of X G e, r, p⟩

theorem lookup_relabel_free {env : Env} : ∀ {names : List (Str × NameKind)} {x : Str}, names.lookup x = some .free →
    (names.map fun (n, k) => if (k == NameKind.free && env.scope.kind == .function && env.kindOf n == some .cell) then (n, NameKind.cell) else (n, k)).lookup x = some .cell ∨
    (names.map fun (n, k) => if (k == NameKind.free && env.scope.kind == .function && env.kindOf n == some .cell) then (n, NameKind.cell) else (n, k)).lookup x = some .free
  | [], _, h => by cases h
  | (n, k) :: r, x, h => by
    rw [List.map_cons]
    by_cases hc : (k == NameKind.free && env.scope.kind == .function && env.kindOf n == some .cell) = true
    · simp only [if_pos hc]
      cases hx : x == n with
      | true =>
        simp [List.lookup_cons, hx]
      | false =>
        simp only [List.lookup_cons, hx] at h ⊢
        exact lookup_relabel_free h
    · simp only [if_neg hc]
      cases hx : x == n with
      | true =>
        simp only [List.lookup_cons, hx] at h ⊢
        exact .inr h
      | false =>
        simp only [List.lookup_cons, hx] at h ⊢
        exact lookup_relabel_free h
theorem vis_free {scope : Scope} {cl : List (Str × Addr)} {C : Addr} {env : Env} {x : Str} (h : scope.names.lookup x = some .free) : Vis (compEnvC scope cl C env).scope x := (lookup_relabel_free h).elim (fun h => .inr (.inl h)) fun h => .inr (.inr h)
end RT

set_option maxRecDepth 100000
set_option maxHeartbeats 4000000
namespace RT
open PySem PySem.Spec PyProof.Rows L2
variable [Gh : Ghost]

section
variable {X : Cx}
end
end RT

set_option maxRecDepth 100000
set_option maxHeartbeats 4000000
namespace RT
open PySem PySem.Spec PyProof.Rows L2
variable [Gh : Ghost]

section
variable {X : Cx}
theorem Reps.dropLast {K : PySem.W.Frag} {F : Hp} {xs : List Dt} {vs : List V} (r : Reps K F xs vs) : Reps K F xs.dropLast vs.dropLast := by
  rw [List.dropLast_eq_take, List.dropLast_eq_take, ← r.length]
  exact r.take _
end
end RT

set_option maxRecDepth 100000
set_option maxHeartbeats 4000000
namespace RT
open PySem PySem.Spec PyProof.Rows L2
variable [Gh : Ghost]

section
variable {X : Cx}
end
end RT

set_option maxRecDepth 100000
set_option maxHeartbeats 4000000
namespace RT
open PySem PySem.Spec PyProof.Rows L2
variable [Gh : Ghost]

def dGxGo (isAll : Bool) (sl : List (Option Vl)) (slw : List (Option Vl)) (g : Tgt) (te : DE) (all : List Dt) (lk : Option Nat) (K : Bool → M → Prop) : List Dt → List Cell → Prop
  | [], st => lockOk lk all ⟨sl, st⟩ ∧ K isAll ⟨sl, st⟩
  | x :: xs, st => lockOk lk all ⟨sl, st⟩ ∧ tgD g (.d x) ⟨slw, st⟩ fun m1 => te m1 fun v m2 => match v with
    | .d (.bl b) => if b = isAll then dGxGo isAll sl slw g te all lk K xs m2.st else K b ⟨sl, m2.st⟩
    | _ => False
def dGx (isAll : Bool) (di : DI) (g : Tgt) (te : DE) (vs : List Nat) : DE := fun m Q => di m fun xs lk m1 => dGxGo isAll m1.sl (wipeD m1.sl vs) g te xs lk (fun b m2 => Q (.d (.bl b)) m2) xs m1.st
theorem Good.tabbed {K : PySem.W.Frag} {W F : Hp} {A : List Addr} {m : M} {σ : L2.St} {H H' : Hp} {q : Addr × Addr} (G : Good K W F A m σ H) (hq : q ∈ tabsK K) (t : GxR.Tabbed q.2 H H') : Good K W F A m σ H' := by
  obtain ⟨t0, t1, t2⟩ := G.tb q hq
  refine ⟨fun b x e => ?_, fun b x e => ?_, G.dj, G.slen, G.sl, G.len, fun k xs e => ?_, G.nd, fun r hr => ?_, G.gh⟩
  · rw [t.2 b (fun z => by rw [z, t1] at e; cases e)]
    exact G.ext _ _ e
  · rw [t.2 b (fun z => by rw [z, t2] at e; cases e)]
    exact G.hid _ _ e
  · obtain ⟨a, vs, h1, h2, h3⟩ := G.st k xs e
    exact ⟨a, vs, h1, by rw [t.2 a (tab_ne t0 h2).symm]; exact h2, h3⟩
  · obtain ⟨r0, r1⟩ := G.tb r hr
    refine ⟨?_, r1⟩
    by_cases h : r.2 = q.2
    · rw [h]
      exact t.1
    · obtain ⟨ps, e, ok⟩ := r0
      exact ⟨ps, by rw [t.2 _ h]; exact e, ok⟩
theorem wipe_idem : ∀ (l : List Nat) (vs : List Nat) (σ : L2.St), (∀ i ∈ l, i ∈ vs) → L2.wipe (L2.wipe σ vs) l = L2.wipe σ vs := by
  intro l
  induction l with
  | nil =>
    intro vs σ _
    rfl
  | cons z l ih =>
    intro vs σ hz
    show (L2.wipe (L2.wipe σ vs) l).set z none = L2.wipe σ vs
    rw [ih vs σ (fun i hi => hz i (List.mem_cons_of_mem _ hi))]
    have hm : z ∈ vs := hz z List.mem_cons_self
    apply List.ext_getElem?
    intro j
    rw [List.getElem?_set]
    by_cases hj : z = j
    · rw [if_pos hj]
      subst hj
      split
      · rename_i hl
        cases q : (L2.wipe σ vs)[z]? with
        | none =>
          rw [List.getElem?_eq_none_iff] at q
          omega
        | some o =>
          cases o with
          | none => rfl
          | some x => exact absurd hm (wipe_some q).2
      · rename_i hl
        exact (List.getElem?_eq_none_iff.mpr (by omega)).symm
    · rw [if_neg hj]
theorem lift_gx {K : PySem.W.Frag} {q : Addr × Addr} (hq : q ∈ tabsK K) {isAll : Bool} {di : DI} {g : Tgt} {te : DE} {vs : List Nat} (hv : ∀ i ∈ tgSlots g, i ∈ vs) {σ : L2.St} {H : Hp} {Q : VK} (h : lift K (dGx isAll di g te vs) σ H Q) : RG.tGx K q.2 isAll (liftI K di) (tgH K g) (lift K te) vs σ H Q := by
  obtain ⟨W, F, A, m, Qd, G, h, c⟩ := h
  refine ⟨W, F, A, m, _, G, h, fun F1 A1 xs lk m1 H1 s1 p1 G0 q1 J w => ⟨(G0.tb q hq).1, fun H1' hT => ?_⟩⟩
  have G1 := G0.tabbed hq hT
  let Kd : Bool → M → Prop := fun b m2 => Qd (.d (.bl b)) m2
  refine ⟨fun i n H' => ∃ F' A' st', Same F1 F' ∧ A1 <+: A' ∧ Good K W F' A' ⟨m1.sl, st'⟩ σ H' ∧ i + n = xs.length ∧ dGxGo isAll m1.sl (wipeD m1.sl vs) g te xs lk Kd (xs.drop i) st', ⟨xs.length, F1, A1, m1.st, Same.refl _, pre_refl _, G1, Nat.zero_add _, q1⟩, ?_⟩
  rintro i n H2 ⟨F2, A2, st2, s2, p2, G2, en, q2⟩
  by_cases hlt : i < xs.length
  · refine .inr ?_
    have ed : xs.drop i = xs[i] :: xs.drop (i + 1) := List.drop_eq_getElem_cons hlt
    rw [ed] at q2
    obtain ⟨hl, q2⟩ := q2
    obtain ⟨hgo, hy⟩ := w.go W F2 A2 ⟨m1.sl, st2⟩ σ H2 i xs[i] s2 p2 G2 hl (List.getElem?_eq_getElem hlt)
    refine ⟨hgo, fun H' => ∃ F' A' st', Same F1 F' ∧ A1 <+: A' ∧ Good K W F' A' ⟨m1.sl, st'⟩ σ H' ∧ dGxGo isAll m1.sl (wipeD m1.sl vs) g te xs lk Kd (xs.drop (i + 1)) st', fun H' hN => ?_, fun v H3 y => ?_⟩
    · obtain ⟨F', A', st', s', p', G', q'⟩ := hN
      exact ⟨n - 1, by omega, F', A', st', s', p', G', by omega, q'⟩
    · obtain ⟨F3, s3, G3, r3⟩ := hy v H3 y
      have G3w := G3.wipe vs
      have outer : ∀ {F' A' σ' m' H'}, Same F3 F' → A2 <+: A' → Good K W F' A' m' σ' H' → Good K W F' A' ⟨m1.sl, m'.st⟩ σ H' := fun {F' A' σ' m' H'} sF pA G' =>
        ⟨G'.ext, G'.hid, G'.dj, G1.slen, fun i v e => by
          obtain ⟨u, h1, h2⟩ := G1.sl i v e
          exact ⟨u, h1, RepV.mono (s2.trans (s3.trans sF)) (p2.trans pA) h2⟩, G'.len, G'.st, G'.nd, G'.tb, G'.gh⟩
      refine tg_ok (m := ⟨wipeD m1.sl vs, st2⟩) (v := .d xs[i]) G3w r3 q2 fun m' σ' G' hw q' => ⟨?_, ?_⟩
      · have h1 := hw vs hv
        rw [h1]
        exact wipe_idem vs vs σ (fun _ h => h)
      · refine ⟨W, F3, A2, m', _, G', q', fun F4 A4 z m4 H4 s4 p4 G4 q4 u4 r4 => ?_⟩
        have q5 : ∃ b, z = .d (.bl b) ∧ (if b = isAll then dGxGo isAll m1.sl (wipeD m1.sl vs) g te xs lk Kd (xs.drop (i + 1)) m4.st else Kd b ⟨m1.sl, m4.st⟩) := by
          cases z with
          | d x =>
            cases x with
            | bl b => exact ⟨b, rfl, q4⟩
            | _ => exact q4.elim
          | c k => exact q4.elim
        obtain ⟨b, ez, q6⟩ := q5
        subst ez
        have eu : u4 = .bl b := repB_bl (H := H4) (K := K) (F := F4) r4
        refine ⟨b, eu, ?_⟩
        by_cases hb : b = isAll
        · rw [if_pos hb] at q6 ⊢
          exact ⟨F4, A4, m4.st, s2.trans (s3.trans s4), p2.trans p4, outer s4 p4 G4, q6⟩
        · rw [if_neg hb] at q6 ⊢
          exact c F4 A4 _ _ _ (s1.trans (s2.trans (s3.trans s4))) (p1.trans (p2.trans p4)) (outer s4 p4 G4) q6 _ rv_bl
  · have e : i = xs.length := by omega
    subst e
    rw [List.drop_length] at q2
    obtain ⟨hl, q2⟩ := q2
    exact .inl ⟨w.stop W F2 A2 ⟨m1.sl, st2⟩ σ H2 s2 p2 G2 hl, c F2 A2 _ _ _ (s1.trans s2) (p1.trans p2) G2 q2 _ rv_bl⟩
def InGen (X : Cx) : Prop := ∃ q ∈ tabsK X.K, X.env.code = .ref q.1
theorem ingen_of {X : Cx} {p : Str × Option Str} (h : CodeIs X.K (He.fAd X.K p) X.env.code) (hp : p ∈ gdefs) (ht : (tabK X.K p).isSome = true) : InGen X := by
  obtain ⟨oc, od, fd, osl, lk, ec⟩ := h
  obtain ⟨q, e⟩ := Option.isSome_iff_exists.mp ht
  refine ⟨q, List.mem_filterMap.mpr ⟨p, hp, e⟩, ?_⟩
  unfold tabK at e
  rw [lk] at e
  dsimp only at e
  rw [← ec]
  cases hc : fd.code with
  | ref c =>
    rw [hc] at e
    dsimp only at e
    split at e
    · split at e
      · cases e
        rfl
      · cases e
    · cases e
  | _ =>
    rw [hc] at e
    cases e
theorem gr_gx {k : Nat} {A A' : Around} (r : GRoom (k + 1) A) (h : RG.GAo A A') : GRoom k A' :=
  ⟨⟨h.hd, by have := r.room.dp; have := h.dp; omega, by have := r.room.un; have := h.un; omega⟩, by rw [h.gd]; exact r.gd, by have := r.dp; have := h.dp; omega⟩
section
variable {X : Cx} {pos p gpos : Pos} {elt tg iter : Expr} {scope : Scope} {own' : List (Str × Nat)} {di : DI} {g : Tgt} {te : DE} {k : Nat}
structure GScope (scope : Scope) : Prop where
  co : scope.isCoroutine = false
  cell : ∀ y ∈ scope.names, y.2 ≠ .cell
  dot : scope.names.lookup (".0" : Str) = some NameKind.local
def gscB (s : Scope) : Bool := !s.isCoroutine && (s.names.all fun y => y.2 != .cell) && (s.names.lookup (".0" : Str) == some NameKind.local)
theorem gsc_of {s : Scope} (h : gscB s = true) : GScope s := by
  obtain ⟨h, h3⟩ := Bool.and_eq_true_iff.mp h
  obtain ⟨h1, h2⟩ := Bool.and_eq_true_iff.mp h
  exact ⟨by simpa using h1, fun y hy => by simpa using List.all_eq_true.mp h2 y hy, by simpa using h3⟩
theorem je_any (amb : Amb (k + 1) X) (ig : InGen X) (gs : GScope scope) (hgl : Gl X "any") (hm : X.mg "any" = none) (hv : ∀ i ∈ tgSlots g, i ∈ own'.map (·.2)) (hc : X.calm = true) (hN : X.N.Nodup) (hi : JI X tg iter di) (ok : BlkOk X.N X.env.scope scope own')
    (hg : ∀ (s : Shared) (H : Hp) (C : Addr) (code : Value) (cl : List (Str × Addr)) (fp : List Addr) (A' : Around), RG.GAo X.A A' → PG (RG.GCx X s H (genEnv scope cl C code builtinsNs X.env) fp A') tg (tgH X.K g))
    (he : ∀ (s : Shared) (H : Hp) (C : Addr) (code : Value) (cl : List (Str × Addr)) (fp : List Addr) (A' : Around), RG.GAo X.A A' → JE (RG.GCx X s H (genEnv scope cl C code builtinsNs X.env) fp A') elt te)
    (hs : ∀ v, genFold iter X.env v = pure v := by intro _; rfl)
    (hse : starEach [.GeneratorExp elt [⟨tg, iter, [], 0⟩] scope gpos] X.env = (false, eval (.GeneratorExp elt [⟨tg, iter, [], 0⟩] scope gpos) X.env) :: starEach [] X.env := by rfl) :
    JE X (.Call (.Name "any" p) [.GeneratorExp elt [⟨tg, iter, [], 0⟩] scope gpos] [] pos) (dGx false di g te (own'.map (·.2))) := by
  obtain ⟨q, hq, hcode⟩ := ig
  exact (RG.pe_any (te := lift X.K te) amb.rm.room.hd (by have := amb.rm.dp; omega) hgl hm hc hN (amb.tb q hq) hcode hi ok gs.co gs.cell gs.dot hg he hs hse).imp fun _ _ _ h => lift_gx hq hv h
theorem je_all (amb : Amb (k + 1) X) (ig : InGen X) (gs : GScope scope) (hgl : Gl X "all") (hm : X.mg "all" = none) (hv : ∀ i ∈ tgSlots g, i ∈ own'.map (·.2)) (hc : X.calm = true) (hN : X.N.Nodup) (hi : JI X tg iter di) (ok : BlkOk X.N X.env.scope scope own')
    (hg : ∀ (s : Shared) (H : Hp) (C : Addr) (code : Value) (cl : List (Str × Addr)) (fp : List Addr) (A' : Around), RG.GAo X.A A' → PG (RG.GCx X s H (genEnv scope cl C code builtinsNs X.env) fp A') tg (tgH X.K g))
    (he : ∀ (s : Shared) (H : Hp) (C : Addr) (code : Value) (cl : List (Str × Addr)) (fp : List Addr) (A' : Around), RG.GAo X.A A' → JE (RG.GCx X s H (genEnv scope cl C code builtinsNs X.env) fp A') elt te)
    (hs : ∀ v, genFold iter X.env v = pure v := by intro _; rfl)
    (hse : starEach [.GeneratorExp elt [⟨tg, iter, [], 0⟩] scope gpos] X.env = (false, eval (.GeneratorExp elt [⟨tg, iter, [], 0⟩] scope gpos) X.env) :: starEach [] X.env := by rfl) :
    JE X (.Call (.Name "all" p) [.GeneratorExp elt [⟨tg, iter, [], 0⟩] scope gpos] [] pos) (dGx true di g te (own'.map (·.2))) := by
  obtain ⟨q, hq, hcode⟩ := ig
  exact (RG.pe_all (te := lift X.K te) amb.rm.room.hd (by have := amb.rm.dp; omega) hgl hm hc hN (amb.tb q hq) hcode hi ok gs.co gs.cell gs.dot hg he hs hse).imp fun _ _ _ h => lift_gx hq hv h
end

end RT

set_option maxRecDepth 100000
set_option maxHeartbeats 4000000
namespace RT
open PySem PySem.Spec PyProof.Rows L2
variable [Gh : Ghost]

def dZipT (ts : DA) : DI := fun m Q => ts m fun vs m1 => match vs with
  | [.d (.tup xs), .d (.tup ys)] => Q (zipD xs ys) none m1
  | _ => False
section
variable {X : Cx} {ts : DA} {e e2 : Expr} {p pos tpos : Pos} {elts : List Expr} {kk : Nat}
end
end RT

set_option maxRecDepth 100000
set_option maxHeartbeats 4000000
namespace RT
open PySem PySem.Spec PyProof.Rows L2
variable [Gh : Ghost]
section
variable {X : Cx} {pos : Pos}
end
end RT

set_option maxRecDepth 100000
set_option maxHeartbeats 4000000
namespace RT
open PySem PySem.Spec PyProof.Rows L2
variable [Gh : Ghost]
section
variable {X : Cx} {o e : Expr} {es : List Expr} {to : DE} {ts : DA} {pos : Pos}

end
end RT

set_option maxRecDepth 100000
set_option maxHeartbeats 4000000
namespace RT
open PySem PySem.Spec PyProof.Rows L2
variable [Gh : Ghost]
section
variable {X : Cx} {pos : Pos} {e t1 t2 : Expr}
end
end RT

set_option maxRecDepth 100000
set_option maxHeartbeats 4000000
namespace RT
open PySem PySem.Spec PyProof.Rows L2
variable [Gh : Ghost]
section
variable {X : Cx} {pos : Pos} {e tg : Expr} {te : DE}
end
end RT

set_option maxRecDepth 100000
set_option maxHeartbeats 4000000

namespace RT
open PySem PySem.Spec PyProof.Rows L2
variable [Gh : Ghost]
section
variable {prog : Program} {w : World} {A : Around} {E : Value → Shared → Prop} {s : Shared}
end
section
variable {X : Cx}
end
end RT

set_option maxRecDepth 100000
set_option maxHeartbeats 4000000

namespace RT
open PySem PySem.Spec PyProof.Rows L2

def bmVE : List Value := [.type "ValueError", .type "Exception", .type "BaseException", .type "object"]
def excB (K : PySem.W.Frag) (x : Str) : Bool := match PySem.W.nsIn K mainGlobals x with
  | some (some (.ref C)) => PySem.W.excIn K C bmVE "ValueError.__new__" && (PySem.W.keepIn K (.ref C) && ((PySem.W.subIn K (.ref C) (.type "BaseException") == some true) && ((PySem.W.typeIn K (.ref C) == some (.type "type")) &&
      ((PySem.W.findIn K (.ref C) "__getattribute__" == some (some (.builtin "BaseException.__getattribute__"))) && ((PySem.W.findIn K (.ref C) "__getattr__" == some none) && (PySem.W.hasDictIn K C && ((PySem.W.findIn K (.ref C) "__class__" == some (some (.builtin "object.__class__"))) &&
      ((PySem.W.specialIn K (.builtin "object.__class__") "__get__" == some (some (.builtin "getset_descriptor.__get__"))) && ((PySem.W.takesIn K (.builtin "object.__class__") == some true) && (PySem.W.mroIn K C (.type "object") == some true))))))))))
  | _ => false
structure ExcF (K : PySem.W.Frag) (x : Str) (C : Addr) : Prop where
  at_ : PySem.W.nsIn K mainGlobals x = some (some (.ref C))
  ex : PySem.W.excIn K C bmVE "ValueError.__new__" = true
  kp : PySem.W.keepIn K (.ref C) = true
  sub : PySem.W.subIn K (.ref C) (.type "BaseException") = some true
  ty : PySem.W.typeIn K (.ref C) = some (.type "type")
  cc : ExcC K C
theorem excF_of {K : PySem.W.Frag} {x : Str} (h : excB K x = true) : ∃ C, ExcF K x C := by
  unfold excB at h
  split at h
  · rename_i C e
    simp only [Bool.and_eq_true, beq_iff_eq] at h
    obtain ⟨h1, h2, h3, h4, h5, h6, h7, h8, h9, h10, h11⟩ := h
    exact ⟨C, e, h1, h2, h3, h4, ⟨h5, h6, h3, h7, h8, h9, h10, h11⟩⟩
  · cases h
def exmB (K : PySem.W.Frag) (x y : Str) : Bool := match PySem.W.nsIn K mainGlobals x, PySem.W.nsIn K mainGlobals y with
  | some (some cx), some (some cy) => PySem.W.exmOne K cx cy == some true
  | _, _ => false
theorem exm_of {K : PySem.W.Frag} {x y : Str} {cx cy : Value} (h : exmB K x y = true) (hx : PySem.W.nsIn K mainGlobals x = some (some cx)) (hy : PySem.W.nsIn K mainGlobals y = some (some cy)) : PySem.W.exmOne K cx cy = some true := by
  unfold exmB at h
  rw [hx, hy] at h
  exact beq_iff_eq.mp h
def isiB (K : PySem.W.Frag) (x y : Str) (b : Bool) : Bool := match PySem.W.nsIn K mainGlobals x, PySem.W.nsIn K mainGlobals y with
  | some (some cx), some (some (.ref cy)) => PySem.W.kitOne K cx (.ref cy) == some b
  | _, _ => false

def ExcG (K : PySem.W.Frag) (mg : Str → Option Value) (x : Str) : Prop := ∃ D, ExcF K x D ∧ mg x = some (.ref D)
def ExmG (K : PySem.W.Frag) (mg : Str → Option Value) (x y : Str) : Prop := ∃ cy, mg y = some cy ∧ ∀ v, PySem.W.nsIn K mainGlobals x = some (some v) → PySem.W.exmOne K v cy = some true
def IsiG (K : PySem.W.Frag) (mg : Str → Option Value) (x y : Str) (b : Bool) : Prop := ∃ cy, mg y = some (.ref cy) ∧ ∀ v, PySem.W.nsIn K mainGlobals x = some (some v) → PySem.W.kitOne K v (.ref cy) = some b
theorem excG_of {K : PySem.W.Frag} {h : Heap} {mg : Str → Option Value} {x : Str} (X : K.In h) (G : h.Ns mainGlobals mg) (c : excB K x = true) : ExcG K mg x := by
  obtain ⟨D, f⟩ := excF_of c
  exact ⟨D, f, PySem.W.mg_of X G f.at_⟩
theorem exmG_of {K : PySem.W.Frag} {h : Heap} {mg : Str → Option Value} {x y : Str} (X : K.In h) (G : h.Ns mainGlobals mg) (c : exmB K x y = true) : ExmG K mg x y := by
  have c' := c
  unfold exmB at c'
  split at c'
  · rename_i cx cy e1 e2
    exact ⟨cy, PySem.W.mg_of X G e2, fun v hv => exm_of c hv e2⟩
  · cases c'
theorem isiG_of {K : PySem.W.Frag} {h : Heap} {mg : Str → Option Value} {x y : Str} {b : Bool} (X : K.In h) (G : h.Ns mainGlobals mg) (c : isiB K x y b = true) : IsiG K mg x y b := by
  unfold isiB at c
  split at c
  · rename_i cx cy e1 e2
    refine ⟨cy, PySem.W.mg_of X G e2, fun v hv => ?_⟩
    rw [e1] at hv
    cases hv
    exact beq_iff_eq.mp c
  · cases c

abbrev DX := M → (Str → M → Prop) → Prop
abbrev FSpecX := List Vl → List Cell → (Str → List Cell → Prop) → Prop
def liftX (K : PySem.W.Frag) (t : DX) (Wx : WX) : TS := fun _ σ H => ∃ W F A m QX, Good K W F A m σ H ∧ t m QX ∧
  ∀ F' A' m' σ' H' x v, Same F F' → A <+: A' → Good K W F' A' m' σ' H' → PySem.W.nsIn K mainGlobals x = some (some v) → QX x m' → Wx v none σ' H'
def liftSpX (K : PySem.W.Frag) (sp : FSpecX) : Sp := fun vs H _ E => ∃ W F A st args QX, Good K W F A ⟨[], st⟩ [] H ∧ RepVs K F A args vs ∧ sp args st QX ∧
  ∀ F' A' st' H' x v, Same F F' → A <+: A' → Good K W F' A' ⟨[], st'⟩ [] H' → PySem.W.nsIn K mainGlobals x = some (some v) → QX x st' → E v none H'
abbrev JXs (X : Cx) (Wx : WX) (e : List Stmt) (t : DX) : Prop := PSs X e (liftX X.K t Wx)
section
variable {X : Cx} {Wx : WX} {st : Stmt} {rest : List Stmt} {pos : Pos}
theorem pmk_own0 {C : Addr} {bmB : List Value} {B newId initId : String} {x : Str} {p pos : Pos} (F : ExcBaseFacts B newId initId bmB) (q : PySem.W.excIn X.K C bmB newId = true) (gC : X.mg x = some (.ref C)) (kC : PySem.W.keepIn X.K (.ref C) = true) (r : Raises X (.ref C)) (hg : Gl X x)
    (hdb : (x == ("__debug__" : Str)) = false := by decide) : PMk X (.Call (.Name x p) [] [] pos) (fun _ H Q => Q (.ref C) none H) := by
  intro pins s σ H Q I h
  refine wpAny_Call_Name_kw (ld_glob I hg gC ?_ hdb)
  refine PySem.W.callWith_K0 I.kIn kC ?_
  show wpAny _ _ (call (.ref C) []) _ _ _
  obtain ⟨bm, N, nm, qn, bs, hdct, sn, sub, ab, col, dd, k0, k1, k2, k3, k5, mN, hC, hN, hni, T⟩ := exc_obj I.kIn q
  refine wpAny_call_exc_subT F T hC hN hni (fun h' e hm => ?_) (by show 0 ≤ sizeLine; omega)
  exact mk_of I hm r h (I.hok.gone hm.new)

def FnX (P : Program) (w : World) (K : PySem.W.Frag) (mg : Str → Option Value) (base : Heap) (x : Str) (k : Nat) (sp : FSpecX) : Prop :=
  ∃ (f : Addr) (fd : FuncData) (ps : List Str), Fnn P w K mg base (L2.CX P w) k f fd ps (liftSpX K sp) ∧ mg x = some (.ref f) ∧ PySem.W.keepIn K (.ref f) = true ∧ Binds K fd ps []
theorem run_fnX {CX : CXT} {k : Nat} {f : Addr} {fd : FuncData} {ps : List Str} {sp : Sp} {E : XK} {pins : List (Addr × Obj)} {σ : L2.St} {H : Hp} {s : Shared} {Q : VK} {us : List Value} {vs : List V} (F : Fnn X.prog X.w X.K X.mg X.base CX k f fd ps sp) (hr : GRoom k X.A) (hb : Binds X.K fd ps []) (hx : PassesAt CX X σ E)
    (I : Inv X pins σ H s) (r : Vals vs us) (h : sp vs H Q E) : wpAny (model X.prog X.w) X.A (call (.ref f) us) (EP X pins σ Q) X.xe s := by
  have hl : us.length = ps.length := by rw [← r.length]; exact F.len _ _ _ _ h
  have b := hb s us I.kIn (by rw [List.append_nil]; exact hl)
  rw [List.append_nil] at b
  refine wpAny_call (codeAny_mono (F.run X.A X.stack s H ⟨us, []⟩ us vs Q E hr I.env0 b r h) fun r s' hq => ?_)
  cases r with
  | error e => exact hx pins H s e s' I hq
  | ok fl =>
    cases fl with
    | ret u => exact I.after hq
    | next => exact False.elim hq
    | brk => exact False.elim hq
    | cont => exact False.elim hq
end

def spXOf (n N : Nat) (b : DX) : FSpecX := fun args st QX => args.length = n ∧ b (startM N args st) fun x m => QX x (m.st.take st.length)
theorem mkX {P : Program} {w : World} {K : PySem.W.Frag} {mg : Str → Option Value} {base : Heap} {x y qual : Str} {params : Arguments} {body : List Stmt} {scope : Scope} {kws : List (Str × V)} {f : Addr} {fd : FuncData} {N ps : List Str} {k n m : Nat} {b : DX} (hns : BaseOk K mg base) (htr : P.given.tree = none)
    (F : FunD K y qual params body scope [] kws f fd) (hm : mg x = some (.ref f)) (S : FnScope N ps scope) (hn : ps.length = n) (hN : N.length = m)
    (hb : ∀ (kV doc pm : Value) (an : Option Addr) (cdv ct : Value) (us : List Value), us.length = ps.length → bindArgs (PySem.W.fnOf y qual params body scope .none kV doc pm an cdv ct) ⟨us, []⟩ = pure (ps.zip us))
    (hd : ∀ (X : Cx) (Wx : WX) (cdv : Value) (A : Around) (outer : List Env) (s : Shared) (H : Hp) (E : XK), X = cxOf (L2.CX P w) P w K mg base N qual scope f cdv A outer s H E → Takes X Wx → Amb k X → JXs X Wx body b) :
    FnX P w K mg base x (k + 1) (spXOf n m b) := by
  subst hn hN
  refine ⟨f, fd, ps, ?_, hm, F.kp, F.bindsN hb⟩
  obtain ⟨oc, od, dV, kV, doc, pm, an, cdv, ct, osl, rfl, lk, hcd, _, _⟩ := F.ex
  refine fnn_of hns htr lk hcd S (fun vs H Q E h => ?_) fun A outer s H vs Q E amb h => ?_
  · obtain ⟨W, F1, A1, st1, args, QX, G, r, q, c⟩ := h
    rw [← r.length]
    exact q.1
  · obtain ⟨W, F1, A1, st1, args, QX, G, r, q, c⟩ := h
    refine ⟨_, hd (cxOf (L2.CX P w) P w K mg base N qual scope f cdv A outer s H E) (fun cls d _ H => E cls d H) cdv A outer s H E rfl (takes_of rfl rfl rfl rfl) amb, ?_⟩
    have hl := r.length
    refine ⟨W, F1, A1, startM N.length args st1, _, ⟨G.ext, G.hid, G.dj, ?_, ?_, G.len, G.st, G.nd, G.tb, G.gh⟩, q.2, ?_⟩
    · unfold startM L2.start
      simp [hl]
    · intro i v e
      unfold startM at e
      unfold L2.start
      rw [← hl]
      exact repVs_slots r _ i v e
    · intro F' A' m' σ' H' x v s' p' G' e q'
      have eA : A'.take st1.length = A1 := by rw [← G.len]; exact pre_take p'
      have G1 := G'.take st1.length
      rw [eA] at G1
      exact c F' A1 _ H' x v s' (pre_refl _) G1 e q'

section
variable {X : Cx} {i : Nat} {a : Addr} {rest : List Stmt} {pos : Pos}
abbrev CE (X : Cx) (i : Nat) (a : Addr) (e : Expr) (v : V) : Prop := PE X e fun σ H Q => σ[i]? = some (some (.ref a)) ∧ Q v H
end

end RT

set_option maxRecDepth 100000
set_option maxHeartbeats 4000000

namespace RT
open PySem PySem.Spec PyProof.Rows L2
variable [Gh : Ghost]
section
variable {X : Cx} {a b : Expr} {ta tb : DE} {pos : Pos}
end
end RT

set_option maxRecDepth 100000
set_option maxHeartbeats 4000000

namespace RT
open PySem PySem.Spec PyProof.Rows L2
variable [Gh : Ghost]
def hashIs (ks : List Int) : Int := reduceHash (Builtin.Tuple.tupleHashOf (ks.map hashInt))
def intsB : List Int → List Value → Bool
  | [], [] => true
  | i :: r, .int j _ :: us => decide (i = j) && intsB r us
  | _, _ => false
def keyB (K : PySem.W.Frag) (b : Addr) (ks : List Int) : Bool := match K.lookup b with
  | some ⟨.type c, _, .seq its _, _⟩ => decide (c = "tuple") && intsB ks its.toList
  | _ => false
def entB (K : PySem.W.Frag) : List (List Int × Int) → List DictEntry → Bool
  | [], [] => true
  | (ks, v) :: r, ⟨h, .ref b, .int i _⟩ :: es => (decide (h = hashIs ks) && (keyB K b ks && decide (i = v))) && entB K r es
  | _, _ => false
structure DctF (K : PySem.W.Frag) (a : Addr) (kvs : List (List Int × Int)) : Prop where
  sm : (a == sysModules) = false
  nd : (kvs.map (·.1)).Nodup
  es : ∃ es n, K.lookup a = some ⟨.type "dict", none, .dict es n, #[]⟩ ∧ entB K kvs es.toList = true

def keysO (o : Obj) : List Addr := match o.data with
  | .dict es _ => es.toList.flatMap fun e => He.refV e.key
  | _ => []
def asK (g : Addr → Option Obj) (as : List Addr) : List Addr := (as ++ as.flatMap fun a => match g a with
  | some o => keysO o
  | none => []).eraseDups

section
variable {X : Cx}
variable {x : Str} {p pos : Pos} {e : Expr} {te : DE} {kvs : List (List Int × Int)}
end
end RT

set_option maxRecDepth 100000
set_option maxHeartbeats 4000000

namespace RT
open PySem PySem.Spec PyProof.Rows L2
variable [Gh : Ghost]
section
variable {X : Cx}
theorem boot_all : bootBuiltins "all" = some (.builtin "all") := by decide +kernel
end
end RT

set_option maxRecDepth 100000
set_option maxHeartbeats 4000000

namespace RT
open PySem PySem.Spec PyProof.Rows L2
variable [Gh : Ghost]
def Refs (A : List Addr) (ks : List Nat) (rs : List V) : Prop := rs = ks.map (fun j => V.ref (A.getD j 0)) ∧ ∀ j ∈ ks, j < A.length
theorem Refs.mono {A A' : List Addr} {ks : List Nat} {rs : List V} (h : Refs A ks rs) (p : A <+: A') : Refs A' ks rs := by
  obtain ⟨t, rfl⟩ := p
  refine ⟨?_, fun j hj => by rw [List.length_append]; have := h.2 j hj; omega⟩
  rw [h.1]
  refine List.map_congr_left fun j hj => ?_
  have := h.2 j hj
  rw [List.getD_eq_getElem?_getD, List.getD_eq_getElem?_getD, List.getElem?_append_left this]
theorem Refs.get {A : List Addr} {ks : List Nat} {rs : List V} (h : Refs A ks rs) {i j : Nat} (e : ks[i]? = some j) : ∃ a, A[j]? = some a ∧ rs[i]? = some (.ref a) := by
  have hj := h.2 j (List.mem_of_getElem? e)
  refine ⟨A[j], List.getElem?_eq_getElem hj, ?_⟩
  rw [h.1, List.getElem?_map, e]
  show some (V.ref (A.getD j 0)) = _
  rw [List.getD_eq_getElem?_getD, List.getElem?_eq_getElem hj]
  rfl
structure GG (K : PySem.W.Frag) (W F : Hp) (A : List Addr) (m : M) (σ : L2.St) (H : Hp) (kg : Nat) (ks : List Nat) : Prop where
  ex : ∃ g0 rs, A[kg]? = some g0 ∧ W g0 = none ∧ Refs A ks rs ∧ Good K (upd W g0 (.lst rs)) F A m σ H
section
variable {K : PySem.W.Frag} {W F F' : Hp} {A A' : List Addr} {m m' : M} {σ σ' : L2.St} {H H' : Hp} {kg : Nat} {ks : List Nat}
theorem GG.of {g0 : Addr} {rs : List V} (ha : A[kg]? = some g0) (hw : W g0 = none) (hr : Refs A ks rs) (p : A <+: A') (G : Good K (upd W g0 (.lst rs)) F' A' m' σ' H') : GG K W F' A' m' σ' H' kg ks := by
  refine ⟨g0, rs, ?_, hw, hr.mono p, G⟩
  obtain ⟨t, rfl⟩ := p
  rw [List.getElem?_append_left (List.getElem?_eq_some_iff.mp ha).1]
  exact ha
abbrev DG := Nat → List Nat → M → (List Nat → M → Prop) → Prop
end
section
variable {X : Cx} {s : Stmt} {rest a b : List Stmt} {pos : Pos}
def gNil : DG := fun _ ks m Q => Q ks m
end

theorem GG.push {K : PySem.W.Frag} {W F : Hp} {A : List Addr} {m : M} {σ : L2.St} {H : Hp} {kg j : Nat} {ks : List Nat} {a g0 : Addr} {rs : List V} (hg : A[kg]? = some g0) (hw : W g0 = none) (hr : Refs A ks rs) (G : Good K (upd W g0 (.lst rs)) F A m σ H) (hj : A[j]? = some a) :
    GG K W F A m σ (upd H g0 (.lst (rs ++ [.ref a]))) kg (ks ++ [j]) := by
  have h2 : H g0 = some (.lst rs) := G.hid g0 _ upd_same
  have fg : F g0 = none := G.dj g0 _ upd_same
  refine ⟨g0, rs ++ [.ref a], hg, hw, ⟨?_, ?_⟩, ?_⟩
  · rw [List.map_append, ← hr.1]
    congr 1
    show [V.ref a] = [V.ref (A.getD j 0)]
    rw [List.getD_eq_getElem?_getD, hj]
    rfl
  · intro x hx
    rcases List.mem_append.mp hx with hx | hx
    · exact hr.2 x hx
    · rw [List.mem_singleton.mp hx]
      exact (List.getElem?_eq_some_iff.mp hj).1
  · refine ⟨fun b x q => ?_, fun b x q => ?_, fun b x q => ?_, G.slen, G.sl, G.len, fun k xs e => ?_, G.nd, fun q hq => ?_, Ghost.mono G.gh SameO.ull (Same.refl _) (pre_refl _)⟩
    · have nb : b ≠ g0 := fun z => by rw [z, fg] at q; cases q
      rw [upd_ne nb]
      exact G.ext _ _ q
    · by_cases nb : b = g0
      · subst nb
        rw [upd_same] at q ⊢
        exact q
      · rw [upd_ne nb] at q ⊢
        exact G.hid b x (by rw [upd_ne nb]; exact q)
    · by_cases nb : b = g0
      · rw [nb]
        exact fg
      · rw [upd_ne nb] at q
        exact G.dj b x (by rw [upd_ne nb]; exact q)
    · obtain ⟨c, vs, q1, q2, q3, q4, q5⟩ := G.st k xs e
      have nb : c ≠ g0 := fun z => by rw [z, upd_same] at q5; cases q5
      rw [upd_ne nb] at q5
      exact ⟨c, vs, q1, by rw [upd_ne nb]; exact q2, q3, q4, by rw [upd_ne nb]; exact q5⟩
    · obtain ⟨t1, t2, t3⟩ := G.tb q hq
      have nb : q.2 ≠ g0 := fun z => by rw [z, upd_same] at t3; cases t3
      rw [upd_ne nb] at t3
      exact ⟨tab_lst t1 h2, t2, by rw [upd_ne nb]; exact t3⟩
section
variable {X : Cx} {pos : Pos}
end

def frzs : List Nat → List (List Dt) → M → M
  | k :: ks, xs :: rows, m => frzs ks rows (frz k xs m)
  | _, _, m => m
def fz1 : List Nat → List (List Dt) → M → Prop
  | [], [], _ => True
  | k :: ks, xs :: rows, m => m.st[k]? = some (.lst xs) ∧ fz1 ks rows (frz k xs m)
  | _, _, _ => False
theorem Good.frzs {K : PySem.W.Frag} {W : Hp} {A : List Addr} {σ : L2.St} {H : Hp} : ∀ {ks : List Nat} {rows : List (List Dt)} {m : M} {F : Hp}, Good K W F A m σ H → fz1 ks rows m → (∀ j ∈ ks, j < A.length) → ∃ F', Same F F' ∧ Good K W F' A (RT.frzs ks rows m) σ H ∧ Reps K F' (rows.map .lst) (ks.map (fun j => V.ref (A.getD j 0)))
  | [], [], m, F, G, _, _ => ⟨F, Same.refl _, G, by simp [Reps]⟩
  | k :: ks, xs :: rows, m, F, G, ⟨e, h⟩, hl => by
    obtain ⟨F1, a, s1, ha, r1, G1⟩ := G.freeze e
    obtain ⟨F2, s2, G2, r2⟩ := Good.frzs G1 h fun j hj => hl j (List.mem_cons_of_mem _ hj)
    refine ⟨F2, s1.trans s2, G2, ?_⟩
    have ea : A.getD k 0 = a := by
      rw [List.getD_eq_getElem?_getD, ha]
      rfl
    simp only [List.map_cons, Reps]
    refine ⟨.ref a, ks.map (fun j => V.ref (A.getD j 0)), by rw [ea], Rep.mono s2 r1, r2⟩
  | [], _ :: _, _, _, _, h, _ => h.elim
  | _ :: _, [], _, _, _, h, _ => h.elim
section
variable {X : Cx} {s : Stmt} {rest : List Stmt}
end

theorem RepVs.append {K : PySem.W.Frag} {F : Hp} {A : List Addr} : ∀ {x y : List Vl} {u v : List V}, RepVs K F A x u → RepVs K F A y v → RepVs K F A (x ++ y) (u ++ v)
  | [], y, u, v, h, h' => by
    simp only [RepVs] at h
    subst h
    exact h'
  | a :: x, y, u, v, h, h' => by
    obtain ⟨b, r, rfl, h1, h2⟩ := h
    exact ⟨b, r ++ v, rfl, h1, RepVs.append h2 h'⟩
section
variable {X : Cx}
end
end RT

set_option maxRecDepth 100000
set_option maxHeartbeats 4000000

namespace RT
open PySem PySem.Spec PyProof.Rows L2 NdefX
structure EIni (P : Program) (K : PySem.W.Frag) (C fI cc : Addr) (F : NF) (arg f : Str) (e : Expr) : Prop where
  oex : OexC K C
  lk : ∃ oc od dV kV doc pm an ct osl, K.lookup fI = some ⟨oc, od, .func (PySem.W.fnX F.name F.qual F.params F.body F.scope F.cl dV kV doc pm an (.ref F.c) ct), osl⟩
  cd : PySem.W.codeIn K (.ref F.c) F.qual = true
  cl : F.cl = [(("__class__" : Str), cc)]
  cell : ∃ c d s, K.lookup cc = some ⟨c, d, .cell (some (.ref C)), s⟩
  clsC : ∃ cd, PySem.W.clsIn K C = some cd ∧ PySem.W.ks_superIn K C C "__init__" = some (some (.builtin "ValueError.__init__"))
  mro : PySem.W.mroIn K C (.ref C) = some true
  ve : PySem.W.subIn K (.ref C) (.type "ValueError") = some true
  opq : PySem.W.nsIn K cStatics "thirdparty.any" = some none
  noat : PySem.W.findIn K (.ref C) f = some none
  file : ∃ (c : Value) (d : Option Addr) (vs : Array Value) (s : Array (Option Value)) (fl : Str) (t : Tok), K.lookup F.c = some ⟨c, d, .fields vs, s⟩ ∧ vs[2]? = some (.str fl t) ∧ ((P.main.file : Str) == fl) = true
  hd : (F.params.posonlyargs ++ F.params.args).head?.map (·.arg) = some ("self" : Str)
  top : (P.main.scope.names.lookup ("super" : Str)).isSome = false
def spEI (K : PySem.W.Frag) (C : Addr) (f : Str) : Sp := fun vs H Q _ => ∃ (a : Addr) (i : Int), vs = [.ref a, .int i] ∧ i.natAbs.log2 < 1920 ∧ H a = some (exo a C none) ∧
  ∀ dx, H dx = none → dx ≠ a → Q .non (upd (upd H dx (exd dx [(f, .int i)])) a (exo a C (some dx)))
theorem mw_call {X : Cx} {pins : List (Addr × Obj)} {σ : L2.St} {H : Hp} {s : Shared} {a C u : Addr} {us : List Value} {Q : Value → Shared → Prop} (T : OexC X.K C) (I : Inv X ((u, PySem.W.kxs_mw "ValueError.__init__" a) :: pins) σ H s) (e : H a = some (exo a C none)) (hl : us.length ≤ sizeLine) (h : ∀ s', Inv X pins σ H s' → Q .none s') :
    wpAny (model X.prog X.w) X.A (call (.ref u) us) Q X.xe s := by
  obtain ⟨nm, q, N, bs, bm, sn, sub, ab, col, dd, k0, k1, k2, k3, k5, hC, hbm⟩ := T.cls
  obtain ⟨t1, ho⟩ := exo_at I.hok e
  have hC' := I.kIn _ _ hC
  obtain ⟨hu, _⟩ := I.pin (u, PySem.W.kxs_mw "ValueError.__init__" a) (List.mem_append_right _ List.mem_cons_self)
  have I0 : Inv X pins σ H s := I.pins_of fun p hp => I.pin p (List.mem_append_right _ (List.mem_cons_of_mem _ hp))
  obtain ⟨hh, g, d, tk, os⟩ := s
  refine wpAny_call (codeAny_of_tree ?_)
  show wpAny _ X.A.in1 (callAny (.ref u) ⟨us, []⟩) _ _ _
  simp only [callAny]
  refine wpAny_bind (wpAny_load hu ?_)
  simp only [PySem.W.kxs_mw, show (Value.type "method-wrapper" == Value.type "method" || Value.type "method-wrapper" == Value.type "builtin_function_or_method" || Value.type "method-wrapper" == Value.type "method-wrapper") = true by decide, if_true]
  refine PySem.W.KFB.if_so (by decide) ?_
  refine wpAny_bind (PySem.W.check_bound_init PySem.F.excBase_ValueError.toExcCallFacts hC' ho rfl ?_)
  refine wpAny_bind (wpAny_pure (wpAny_pure ?_))
  refine ⟨plainId_quiet PySem.F.excBase_ValueError.init.plain _, codeAny_builtin PySem.F.excBase_ValueError.initEntry ?_⟩
  refine PySem.W.exc_init_tree (cls := .ref C) (t0 := t1) (dv := none) (c2 := .none) (c3 := .none) (b4 := .bool false) ho hl (fun h' k hx _ => ?_)
  have J := I0.write (t' := tk) (x := a) (e := a) (o := exo a C none) (by rw [e]; exact True.intro) (.inl rfl) k ⟨_, hx⟩ (exo_ok hx)
  have eu : upd H a (exo a C none) = H := by
    funext b
    by_cases hb : b = a
    · rw [hb, upd_same, e]
    · rw [upd_ne hb]
  rw [eu] at J
  exact h _ J
theorem super_init {CX : CXT} {P : Program} {w : World} {K : PySem.W.Frag} {mg : Str → Option Value} {base : Heap} {N : List Str} {C fI cc : Addr} {F : NF} {arg f : Str} {e : Expr} (T : EIni P K C fI cc F arg f e) {A : Around} {outer : List Env} {s₀ : Shared} {H₀ : Hp} {E : XK}
    {p0 p1 apos cpos : Pos} {ta : TA} {pl : Sem Bool} {σ : L2.St} {H : Hp} {s : Shared} {a : Addr} {R : Value → Shared → Prop} (hfr : A.frames = some outer)
    (hsu : F.scope.names.lookup ("super" : Str) = some .globalImplicit) (hcl : F.scope.names.lookup ("__class__" : Str) = some .free) (hse : F.scope.names.lookup ("self" : Str) = some .local) (hk : F.scope.kind = .function) (hN : N[0]? = some ("self" : Str))
    (hgl : mg "super" = none) (I : Inv (ncx CX P w K mg base N F fI A outer s₀ H₀ E) [] σ H s) (h0 : σ[0]? = some (some (.ref a))) (ea : H a = some (exo a C none))
    (ha : PA (ncx CX P w K mg base N F fI A outer s₀ H₀ E) [e] ta) (hq : ta σ H fun vs H1 => H1 = H ∧ vs.length = 1 ∧ ∀ s', Inv (ncx CX P w K mg base N F fI A outer s₀ H₀ E) [] σ H s' → R .none s')
    (hst : starEach [e] (ncx CX P w K mg base N F fI A outer s₀ H₀ E).env = (false, eval e (ncx CX P w K mg base N F fI A outer s₀ H₀ E).env) :: starEach [] (ncx CX P w K mg base N F fI A outer s₀ H₀ E).env)
    (hev : eval (.Call (.Attribute (.Call (.Name "super" p0) [] [] p1) "__init__" apos) [e] [] cpos) (ncx CX P w K mg base N F fI A outer s₀ H₀ E).env = (do
      let ov ← attributeBase (.Call (.Name "super" p0) [] [] p1) "__init__" (ncx CX P w K mg base N F fI A outer s₀ H₀ E).env (eval (.Call (.Name "super" p0) [] [] p1) (ncx CX P w K mg base N F fI A outer s₀ H₀ E).env)
      standAt apos.atName
      let (f, first) ← holding [ov] (getMethod ov "__init__" pl)
      callWith cpos f first (backTo cpos (starEach [e] (ncx CX P w K mg base N F fI A outer s₀ H₀ E).env)) [])) :
    _root_.PySem.wpAt (model P w) (A.deeper (envF F fI s₀.heap.objs.size)) (.func F.body (envF F fI s₀.heap.objs.size)) (eval (.Call (.Attribute (.Call (.Name "super" p0) [] [] p1) "__init__" apos) [e] [] cpos) (envF F fI s₀.heap.objs.size))
      R (ncx CX P w K mg base N F fI A outer s₀ H₀ E).xe s := by
  have hev : eval (.Call (.Attribute (.Call (.Name "super" p0) [] [] p1) "__init__" apos) [e] [] cpos) (envF F fI s₀.heap.objs.size) = _ := hev
  refine ks_wpAt_MethodCall (pl := pl) ?_ hev
  have hst : starEach [e] (envF F fI s₀.heap.objs.size) = (false, eval e (envF F fI s₀.heap.objs.size)) :: starEach [] (envF F fI s₀.heap.objs.size) := hst
  obtain ⟨oc, od, dV, kV, doc, pm, an, ct, osl, lk⟩ := T.lk
  obtain ⟨c1, d1, vs, s1, fl, t1, lkc, hvs, hfile⟩ := T.file
  obtain ⟨c2, d2, s2, lkcell⟩ := T.cell
  obtain ⟨cd, hcd, hsup⟩ := T.clsC
  have KX : K.In s.heap := I.kIn
  obtain ⟨ar, har, ear⟩ : ∃ ar, (F.params.posonlyargs ++ F.params.args).head? = some ar ∧ ar.arg = ("self" : Str) := by
    have := T.hd
    cases h : (F.params.posonlyargs ++ F.params.args).head? with
    | none =>
      rw [h] at this
      cases this
    | some ar =>
      rw [h] at this
      exact ⟨ar, rfl, Option.some.inj this⟩
  refine ks_wpAt_super_base (env := envF F fI s₀.heap.objs.size) hsu hcl (by decide) rfl (KX _ _ lk) rfl har rfl (KX _ _ lkc) rfl hvs hfile T.top ?_
  have mod := I.ok.mod
  obtain ⟨mb, hmb, hbb⟩ := mod.blt
  have boot : bootBuiltins "super" = some (.type "super") := by decide +kernel
  refine PySem.W.ks_loadName_global hk hsu (PySem.Calls.loadGlobal_builtin (env := envF F fI s₀.heap.objs.size) (mod.glob.keeps I.bk) hgl (hmb.keeps I.bk) ((hbb _ (by decide)).trans boot) ⟨rfl, ?_⟩)
  refine wpAny_loadName_free (env := envF F fI s₀.heap.objs.size) hk hcl (c := cc) ?_ ⟨_, KX _ _ lkcell, rfl⟩ ?_
  · show F.cl.lookup _ = _
    rw [T.cl]
    rfl
  obtain ⟨m, hns, hlk⟩ := id I.loc
  obtain ⟨u, hu, lo⟩ := hlk 0 "self" (.ref a) hN h0 (.inl hse)
  have hu : u = .ref a := hu
  subst hu
  have lo : m "self" = some (.ref a) := by
    rcases lo with ⟨_, lo⟩ | ⟨lo, _⟩
    · exact lo
    · have lo : F.scope.names.lookup ("self" : Str) = some .cell ∨ F.scope.names.lookup ("self" : Str) = some .free := lo
      rw [hse] at lo
      rcases lo with lo | lo <;> cases lo
  rw [ear]
  refine wpAny_loadName_local (env := envF F fI s₀.heap.objs.size) hk hse hns lo ?_
  obtain ⟨oD, hD1, hD2⟩ : ∃ oD, s.heap.get? C = some oD ∧ oD.data = .cls cd := by
    unfold PySem.W.clsIn at hcd
    split at hcd
    · rename_i c d cd' sl ho
      cases hcd
      exact ⟨_, KX _ _ ho, rfl⟩
    · cases hcd
  obtain ⟨tt, ho⟩ := exo_at I.hok ea
  obtain ⟨hh, g, d, tk, os⟩ := s
  refine ks_wpAny_isType_cls hD1 hD2 ⟨rfl, ?_⟩
  refine ks_wpAny_call_super hD1 hD2 ho rfl (fun c z => by cases z) (PySem.W.looks_mroIn KX T.mro) (fun h1 hso k1 => ?_)
  have I1 : Inv (ncx CX P w K mg base N F fI A outer s₀ H₀ E) [] σ H ⟨h1, g, d, tk, os⟩ := I.kept (t' := tk) k1
  have K1 : K.In h1 := I1.kIn
  have II : PySem.W.InstAt h1 a { cls := .ref C, dict := none, data := .fields #[.ref tt, .none, .none, .none, .bool false, .none] } C none := ⟨k1 _ _ ho, rfl, rfl, trivial⟩
  have hsup' : PySem.W.alongIn K "__init__" ((cd.mro.dropWhile (· != .ref C)).drop 1) = some (some (.builtin "ValueError.__init__")) := by
    unfold PySem.W.ks_superIn at hsup
    rw [hcd] at hsup
    exact hsup
  refine PySem.W.kxs_getMethod PySem.W.kxs_ValueError hso (PySem.W.looks_opaque K1 T.opq) (l₀ := cd.mro) (fun A Q E s k q => wpAny_bind ((PySem.W.looks_clsIn K1 hcd) A _ E s k (wpAny_pure q))) rfl K1 hsup' (II.type.andThen (PySem.W.looks_subIn K1 T.ve)) (PySem.W.ks_ne K1 II hcd) (by decide) ?_
  have k2 : ∀ b o, h1.get? b = some o → (h1.push (PySem.W.kxs_mw "ValueError.__init__" a)).get? b = some o := fun b o z => Heap.get?_push_of_some _ z
  have I2 : Inv (ncx CX P w K mg base N F fI A outer s₀ H₀ E) [] σ H ⟨h1.push (PySem.W.kxs_mw "ValueError.__init__" a), g, d, tk + 1, os⟩ := I1.kept (t' := tk + 1) k2
  have I3 : Inv (ncx CX P w K mg base N F fI A outer s₀ H₀ E) [(h1.objs.size, PySem.W.kxs_mw "ValueError.__init__" a)] σ H ⟨h1.push (PySem.W.kxs_mw "ValueError.__init__" a), g, d, tk + 1, os⟩ := I2.pins_of fun p hp => by
    rw [List.mem_singleton.mp hp]
    refine ⟨Heap.get?_push_at rfl rfl, I1.hok.fresh (Nat.le_refl _), Nat.ne_of_gt I1.lt, I1.nofs (Nat.le_refl _), fun v z => by cases z⟩
  have hargs := ha.run cpos _ _ σ H _ I3 hq
  have hargs : wpAny _ _ (spliced (backTo cpos (starEach [e] (envF F fI s₀.heap.objs.size)))) _ _ _ := hargs
  rw [hst] at hargs ⊢
  refine PySem.W.kxs_callWith (i := "ValueError.__init__") (x := a) (by rfl) (PySem.Calls.evalArgs_plain ?_)
  refine wpAny_mono hargs (fun us s1 ⟨vs, H1, J1, r1, eH, lv, q⟩ => ?_) fun _ _ z => z
  subst eH
  obtain ⟨hu, _⟩ := J1.pin (h1.objs.size, PySem.W.kxs_mw "ValueError.__init__" a) (List.mem_append_right _ List.mem_cons_self)
  refine ⟨hu, ?_⟩
  refine mw_call T.oex J1 ea ?_ q
  show us.length ≤ sizeLine
  rw [← Paired.length r1, lv]
  decide
def eiBody (arg f : Str) (e : Expr) (p0 p1 apos cpos epos sp fp np ap : Pos) : List Stmt :=
  [.Expr (.Call (.Attribute (.Call (.Name "super" p0) [] [] p1) "__init__" apos) [e] [] cpos) epos, .Assign [.Attribute (.Name "self" sp) f fp] (.Name arg np) ap]
theorem fnn_einit {CX : CXT} {P : Program} {w : World} {K : PySem.W.Frag} {mg : Str → Option Value} {base : Heap} {N : List Str} {C fI cc : Addr} {F : NF} {arg f : Str} {e : Expr} {k : Nat} {p0 p1 apos cpos epos sp fp np ap : Pos} (T : EIni P K C fI cc F arg f e)
    (S : NScope N ["self", arg] ["__class__"] F.scope) (hbody : F.body = eiBody arg f e p0 p1 apos cpos epos sp fp np ap) (hsu : F.scope.names.lookup ("super" : Str) = some .globalImplicit) (hgl : mg "super" = none) (hN0 : N[0]? = some ("self" : Str)) (hN1 : N[1]? = some arg)
    (hd1 : (arg == ("__debug__" : Str)) = false) (hd2 : (arg == ("__classdict__" : Str)) = false)
    (hev : ∀ env : Env, ∃ pl, eval (.Call (.Attribute (.Call (.Name "super" p0) [] [] p1) "__init__" apos) [e] [] cpos) env = (do
      let ov ← attributeBase (.Call (.Name "super" p0) [] [] p1) "__init__" env (eval (.Call (.Name "super" p0) [] [] p1) env)
      standAt apos.atName
      let (f, first) ← holding [ov] (getMethod ov "__init__" pl)
      callWith cpos f first (backTo cpos (starEach [e] env)) []))
    (hst : ∀ env : Env, starEach [e] env = (false, eval e env) :: starEach [] env) (hsw : ∀ env : Env, swapsWith (.Call (.Attribute (.Call (.Name "super" p0) [] [] p1) "__init__" apos) [e] [] cpos) none epos.line env = pure false)
    (hsw2 : ∀ env : Env, swapsWith (.Name arg np) (some (.Attribute (.Name "self" sp) f fp)) ap.line env = pure false) (hint : ∀ env : Env, env.scope.kind = .function → interactive env = false)
    (ha : ∀ X : Cx, X.N[1]? = some arg → Vis X.env.scope arg → ∃ ta : TA, PA X [e] ta ∧ ∀ (σ : L2.St) (H : Hp) (i : Int) (Q : List V → Hp → Prop), σ[1]? = some (some (.int i)) → i.natAbs.log2 < 1920 → (∀ v, Q [v] H) → ta σ H Q)
    {fd : FuncData} (hfd : ∃ oc od osl, K.lookup fI = some ⟨oc, od, .func fd, osl⟩) :
    Fnn P w K mg base CX (k + 1) fI fd ["self", arg] (spEI K C f) := by
  refine ⟨fun vs H Q E ⟨a, i, e, _⟩ => by rw [e]; rfl, fun A outer s H args us vs Q E hr e0 hb r hsp => ?_⟩
  obtain ⟨a, i, rfl, hi, ea, hq⟩ := hsp
  have KX : K.In s.heap := e0.mod.kin.keeps fun b o e => (e0.bs b o e).1
  have lim : s.heap.NoLimit := e0.mod.nolimit.keeps fun b o e => (e0.bs b o e).1
  obtain ⟨oc, od, dV, kV, doc, pm, an, ct, osl, lk⟩ := T.lk
  obtain ⟨oc2, od2, osl2, lk2⟩ := hfd
  have efd : fd = PySem.W.fnX F.name F.qual F.params F.body F.scope F.cl dV kV doc pm an (.ref F.c) ct := by
    rw [lk] at lk2
    have := Option.some.inj lk2
    injection this with _ _ h3 _
    injection h3 with h4
    exact h4.symm
  subst efd
  obtain ⟨c2, d2, s2, lkcell⟩ := T.cell
  have Cl : CellsAt F.cl ["__class__"] [none] s.heap H := by
    rw [T.cl]
    refine ⟨rfl, fun y c e => ?_, fun x y c e1 e2 => ?_, fun j y e => ?_⟩
    · have ey : c = cc := by
        by_cases z : y = "__class__"
        · subst z
          simp [List.lookup] at e
          exact e.symm
        · simp [List.lookup, beq_eq_false_iff_ne.mpr z] at e
      subst ey
      exact ⟨(e0.bs _ _ (e0.mod.kin _ _ lkcell)).2, _, ⟨_, KX _ _ lkcell, rfl⟩⟩
    · have g : ∀ z : Str, ([(("__class__" : Str), cc)] : List (Str × Addr)).lookup z = some c → z = "__class__" := fun z e => by
        by_cases h : z = "__class__"
        · exact h
        · simp [List.lookup, beq_eq_false_iff_ne.mpr h] at e
      rw [g x e1, g y e2]
    · match j, e with
      | 0, e =>
        cases e
        refine ⟨cc, by simp [List.lookup], fun v ev => ?_⟩
        cases ev
      | j + 1, e => simp at e
  refine codeAny_call_function hr.room.depth (KX _ _ lk) rfl S.co S.gen rfl (PySem.W.codeRec_of KX T.cd) (hb _ _ _ _ ?_)
  refine wpAny_newFunctionEnv S.nocell (fun ⟨n, _⟩ hy => S.par n (List.of_mem_zip hy).1) (fun h₁ hns hsb => ⟨lim.fresh _ hsb, ?_⟩) S.kind
  show codeAny _ _ (.func F.body (envF F fI s.heap.objs.size)) _ _
  have kp : ∀ b o, s.heap.get? b = some o → h₁.get? b = some o := fun b o e => hsb.extBut b o (Nat.ne_of_lt (Heap.lt_size e)) (Heap.get?_push_of_some _ e)
  have I : L2.Inv (ncx CX P w K mg base N F fI A outer s H E) [] (startF N [.ref a, .int i] [none]) H { s with heap := h₁, toks := s.toks + ((([("self" : Str), arg] : List Str)).zip us).length } := inv_startN S hr.room.hd e0 rfl r Cl hns kp
  have s0 : (startF N [.ref a, .int i] [none])[0]? = some (some (.ref a)) := rfl
  have s1 : (startF N [.ref a, .int i] [none])[1]? = some (some (.int i)) := rfl
  have va : F.scope.names.lookup arg = some .local := S.par arg (by simp)
  have vs : F.scope.names.lookup ("self" : Str) = some .local := S.par _ (by simp)
  refine ks_codeAny_funcAt ?_
  refine ks_wpAt_mono (Q := SP (ncx CX P w K mg base N F fI A outer s H E) [] { nx := fun _ H' => Q .non H', rt := Q }) (E := (ncx CX P w K mg base N F fI A outer s H E).xe) ?_ (fun fl s' hs => ?_) fun e s' hs => hs
  · rw [hbody]
    refine ks_wpAt_execs_cons ?_
    obtain ⟨pl, hpl⟩ := hev (envF F fI s.heap.objs.size)
    refine ks_wpAt_Expr_any ?_ (hint _ S.kind) (hsw _)
    obtain ⟨ta, hta, hread⟩ := ha (ncx CX P w K mg base N F fI A outer s H E) hN1 (.inl va)
    rw [← hbody]
    refine super_init T (pl := pl) e0.frames hsu (S.frk _ (by simp)) vs S.kind hN0 hgl I s0 ea hta (hread _ _ i _ s1 hi fun v => ⟨rfl, rfl, fun s' J => ?_⟩) (hst _) hpl
    show _root_.PySem.wpAt _ _ _ (execs [_] _) _ _ _
    have P2 : PS (ncx CX P w K mg base N F fI A outer s H E) (.Assign [.Attribute (.Name "self" sp) f fp] (.Name arg np) ap) (tOst K f (tVar 0) (tVar 1)) := ps_ost (pe_var hN0 (.inl vs)) (pe_var hN1 (.inl va) hd1 hd2) (hsw2 _)
    refine ks_wpAt_execs_cons (wpAt_of_wpAny ?_)
    refine wpAny_mono (P2.run [] s' _ H { nx := fun _ H' => Q .non H', rt := Q } J ?_) (fun fl s2 hs => ?_) fun _ _ z => z
    · exact ⟨_, s1, _, s0, a, C, rfl, T.oex, T.noat, .inl ⟨ea, fun dx n ne => hq dx n ne⟩⟩
    · cases fl with
      | next => exact wpAt_of_wpAny (wpAny_execs_nil hs)
      | ret u => exact hs
      | brk => exact hs
      | cont => exact hs
  · have fin : ∀ {σ' : L2.St} {H' : Hp} {v : V} {u : Value}, L2.Inv (ncx CX P w K mg base N F fI A outer s H E) [] σ' H' s' → L2.RelV v u → Q v H' → L2.CE outer P w H s Q u s' :=
      fun {σ' H' v u} J rv q => ⟨v, H', J.os, J.bare, J.base, J.hok, rv, q⟩
    cases fl with
    | ret u =>
      obtain ⟨v, σ', H', J, rv, q⟩ := hs
      exact fin J rv q
    | next =>
      obtain ⟨σ', H', J, q⟩ := hs
      exact fin (v := V.non) (u := Value.none) J rfl q
    | brk =>
      obtain ⟨_, _, _, q⟩ := hs
      exact False.elim q
    | cont =>
      obtain ⟨_, _, _, q⟩ := hs
      exact False.elim q
end RT

set_option maxRecDepth 100000
set_option maxHeartbeats 4000000

namespace RT
open PySem PySem.Spec PyProof.Rows L2
inductive OCell where
  | obj (c : Str) (fs : List (Str × Vl))
  | exc (a : Addr) (dd : Option (Addr × Str)) (d : Dt)
abbrev OS := List (Nat × OCell)
structure Flds (K : PySem.W.Frag) (F : Hp) (A : List Addr) (fs : List (Str × Vl)) (us : List (Str × V)) : Prop where
  keys : us.map (·.1) = fs.map (·.1)
  vals : ∀ f v, fs.lookup f = some v → ∃ u, us.lookup f = some u ∧ RepV K F A v u
structure OsOk (K : PySem.W.Frag) (os : OS) (W F : Hp) (A : List Addr) : Prop where
  ob : ∀ k c fs, os.lookup k = some (.obj c fs) → ∃ a C dx us, A[k]? = some a ∧ W a = some (.ins C dx us) ∧ PySem.W.nsIn K mainGlobals c = some (some (.ref C)) ∧ Flds K F A fs us
  ex : ∀ k a dd d, os.lookup k = some (.exc a dd d) → A[k]? = some a ∧ ∀ b f, dd = some (b, f) → ∃ u, W b = some (.xd [(f, u)]) ∧ Rep K F d u
  nd : ∀ j k c fs c' fs' a, os.lookup j = some (.obj c fs) → os.lookup k = some (.obj c' fs') → A[j]? = some a → A[k]? = some a → j = k
theorem Flds.mono {K : PySem.W.Frag} {F F' : Hp} {A A' : List Addr} {fs : List (Str × Vl)} {us : List (Str × V)} (h : Flds K F A fs us) (s : Same F F') (p : A <+: A') : Flds K F' A' fs us :=
  ⟨h.keys, fun f v e => let ⟨u, h1, h2⟩ := h.vals f v e; ⟨u, h1, RepV.mono s p h2⟩⟩
theorem pre_get {A A' : List Addr} {k : Nat} {a : Addr} (p : A <+: A') (h : A[k]? = some a) : A'[k]? = some a := by
  obtain ⟨t, rfl⟩ := p
  rw [List.getElem?_append_left (List.getElem?_eq_some_iff.mp h).1]
  exact h
theorem OsOk.mono {K : PySem.W.Frag} {os : OS} {W W' F F' : Hp} {A A' : List Addr} (h : OsOk K os W F A) (sW : SameO W W') (s : Same F F') (p : A <+: A') : OsOk K os W' F' A' where
  ob := fun k c fs e => by
    obtain ⟨a, C, dx, us, h1, h2, h3, h4⟩ := h.ob k c fs e
    exact ⟨a, C, dx, us, pre_get p h1, sW _ _ True.intro h2, h3, h4.mono s p⟩
  ex := fun k a dd d e => by
    obtain ⟨h1, h2⟩ := h.ex k a dd d e
    refine ⟨pre_get p h1, fun b f z => ?_⟩
    obtain ⟨u, h3, h4⟩ := h2 b f z
    exact ⟨u, sW _ _ True.intro h3, Rep.mono s h4⟩
  nd := fun j k c fs c' fs' a e1 e2 h1 h2 => by
    obtain ⟨a1, _, _, _, g1, _⟩ := h.ob j c fs e1
    obtain ⟨a2, _, _, _, g2, _⟩ := h.ob k c' fs' e2
    have q1 := pre_get p g1
    have q2 := pre_get p g2
    rw [h1] at q1
    rw [h2] at q2
    cases q1
    cases q2
    exact h.nd j k c fs c' fs' a e1 e2 g1 g2
@[reducible] def gho (K : PySem.W.Frag) (os : OS) : Ghost := ⟨OsOk K os, fun h a b c => OsOk.mono h a b c⟩
theorem Good.regh {g1 g2 : Ghost} {K : PySem.W.Frag} {W F : Hp} {A : List Addr} {m : M} {σ : L2.St} {H : Hp} (G : @Good g1 K W F A m σ H) (h : g2.p W F A) : @Good g2 K W F A m σ H := by
  obtain ⟨e, h1, d, sl, s, l, st, nd, tb, _⟩ := G
  exact @Good.mk g2 _ _ _ _ _ _ _ e h1 d sl s l st nd tb h
theorem Good.ghp {g : Ghost} {K : PySem.W.Frag} {W F : Hp} {A : List Addr} {m : M} {σ : L2.St} {H : Hp} (G : @Good g K W F A m σ H) : g.p W F A := by
  obtain ⟨_, _, _, _, _, _, _, _, _, h⟩ := G
  exact h
structure GoodO (K : PySem.W.Frag) (W F : Hp) (A : List Addr) (m : M) (os : OS) (σ : L2.St) (H : Hp) (W' : Hp) : Prop where
  sW : Same W W'
  out : ∀ k c fs a, os.lookup k = some (.obj c fs) → A[k]? = some a → W a = none
  G : @Good (gho K os) K W' F A m σ H
theorem GoodO.next {K : PySem.W.Frag} {W F F' : Hp} {A A' : List Addr} {m m' : M} {os : OS} {σ σ' : L2.St} {H H' W' : Hp} (G : GoodO K W F A m os σ H W') (p : A <+: A') (G' : @Good (gho K os) K W' F' A' m' σ' H') : GoodO K W F' A' m' os σ' H' W' :=
  ⟨G.sW, fun k c fs a e h => by
    obtain ⟨a0, _, _, _, g1, _⟩ := (Good.ghp G.G).ob k c fs e
    have := pre_get p g1
    rw [h] at this
    cases this
    exact G.out k c fs a e g1, G'⟩
def fldOf (x : Str) : Option Str :=
  if x = "NoSuchElement" then some "index" else if x = "CannotShift" then some "index" else if x = "NoSuchPosition" then some "index" else if x = "TokenError" then some "token" else if x = "PowerCut" then some "written" else none
def XFld (K : PySem.W.Frag) (W F H : Hp) (x : Str) (d : Dt) (dd : Option Addr) : Prop := match fldOf x with
  | none => dd = none
  | some f => ∃ b u, dd = some b ∧ H b = some (.xd [(f, u)]) ∧ Rep K F d u ∧ F b = none ∧ W b = none

abbrev EXO := Str → Dt → M → OS → Prop
abbrev DEO := EXO → M → OS → (Vl → M → OS → Prop) → Prop
abbrev DAO := EXO → M → OS → (List Vl → M → OS → Prop) → Prop
abbrev DTO := EXO → M → OS → (Bool → M → OS → Prop) → Prop
structure DOEnds where
  nx : M → OS → Prop
  rt : Vl → M → OS → Prop
  bk : M → OS → Prop
  ct : M → OS → Prop
abbrev DSO := EXO → DOEnds → M → OS → Prop
def AfterO (K : PySem.W.Frag) (W F : Hp) (A : List Addr) (σ : L2.St) {α : Type} (Q : α → M → OS → Prop) (R : Hp → List Addr → α → Hp → Prop) : Prop :=
  ∀ F' A' x m' os' H' W', Same F F' → A <+: A' → GoodO K W F' A' m' os' σ H' W' → Q x m' os' → R F' A' x H'
def AfterX (K : PySem.W.Frag) (W F : Hp) (A : List Addr) (Ex : EXO) (Wx : WX) : Prop :=
  ∀ F' A' m' os' σ' H' W' x d v dd, Same F F' → A <+: A' → GoodO K W F' A' m' os' σ' H' W' → XFld K W' F' H' x d dd → PySem.W.nsIn K mainGlobals x = some (some v) → Ex x d m' os' → Wx v dd σ' H'
theorem AfterX.mono {K : PySem.W.Frag} {W F F' : Hp} {A A' : List Addr} {Ex : EXO} {Wx : WX} (c : AfterX K W F A Ex Wx) (s : Same F F') (p : A <+: A') : AfterX K W F' A' Ex Wx :=
  fun F2 A2 m os σ H W' x d v dd s2 p2 => c F2 A2 m os σ H W' x d v dd (s.trans s2) (pre_trans p p2)
def liftEO (K : PySem.W.Frag) (Wx : WX) (t : DEO) : TE := fun σ H Q => ∃ W F A m os W' Qd Ex, GoodO K W F A m os σ H W' ∧ t Ex m os Qd ∧
  AfterO K W F A σ Qd (fun F' A' v H' => ∀ u, RepV K F' A' v u → Q u H') ∧ AfterX K W F A Ex Wx
def liftTO (K : PySem.W.Frag) (Wx : WX) (t : DTO) : TT := fun σ H Q => ∃ W F A m os W' Qd Ex, GoodO K W F A m os σ H W' ∧ t Ex m os Qd ∧
  AfterO K W F A σ Qd (fun _ _ b H' => Q b H') ∧ AfterX K W F A Ex Wx
def liftAO (K : PySem.W.Frag) (Wx : WX) (t : DAO) : TA := fun σ H Q => ∃ W F A m os W' Qd Ex, GoodO K W F A m os σ H W' ∧ t Ex m os Qd ∧
  AfterO K W F A σ Qd (fun F' A' vs H' => ∀ us, RepVs K F' A' vs us → Q us H') ∧ AfterX K W F A Ex Wx
structure ContsO (K : PySem.W.Frag) (W F : Hp) (A : List Addr) (E : DOEnds) (D : Ends) : Prop where
  nx : ∀ F' A' m' os' σ' H' W', Same F F' → A <+: A' → GoodO K W F' A' m' os' σ' H' W' → E.nx m' os' → D.nx σ' H'
  rt : ∀ F' A' m' os' σ' H' W' v u, Same F F' → A <+: A' → GoodO K W F' A' m' os' σ' H' W' → RepV K F' A' v u → E.rt v m' os' → D.rt u H'
  bk : ∀ F' A' m' os' σ' H' W', Same F F' → A <+: A' → GoodO K W F' A' m' os' σ' H' W' → E.bk m' os' → D.bk σ' H'
  ct : ∀ F' A' m' os' σ' H' W', Same F F' → A <+: A' → GoodO K W F' A' m' os' σ' H' W' → E.ct m' os' → D.ct σ' H'
theorem ContsO.mono {K : PySem.W.Frag} {W F F' : Hp} {A A' : List Addr} {E : DOEnds} {D : Ends} (c : ContsO K W F A E D) (s : Same F F') (p : A <+: A') : ContsO K W F' A' E D :=
  ⟨fun F2 A2 m os σ H W' s2 p2 => c.nx F2 A2 m os σ H W' (s.trans s2) (pre_trans p p2), fun F2 A2 m os σ H W' v u s2 p2 => c.rt F2 A2 m os σ H W' v u (s.trans s2) (pre_trans p p2),
    fun F2 A2 m os σ H W' s2 p2 => c.bk F2 A2 m os σ H W' (s.trans s2) (pre_trans p p2), fun F2 A2 m os σ H W' s2 p2 => c.ct F2 A2 m os σ H W' (s.trans s2) (pre_trans p p2)⟩
def liftSO (K : PySem.W.Frag) (Wx : WX) (t : DSO) : TS := fun D σ H => ∃ W F A m os W' E Ex, GoodO K W F A m os σ H W' ∧ t Ex E m os ∧ ContsO K W F A E D ∧ AfterX K W F A Ex Wx
abbrev JEO (X : Cx) (Wx : WX) (e : Expr) (t : DEO) : Prop := PE X e (liftEO X.K Wx t)
abbrev JTO (X : Cx) (Wx : WX) (e : Expr) (t : DTO) : Prop := PT X e (liftTO X.K Wx t)
abbrev JAO (X : Cx) (Wx : WX) (e : List Expr) (t : DAO) : Prop := PA X e (liftAO X.K Wx t)
abbrev JSO (X : Cx) (Wx : WX) (e : Stmt) (t : DSO) : Prop := PS X e (liftSO X.K Wx t)
abbrev JSOs (X : Cx) (Wx : WX) (e : List Stmt) (t : DSO) : Prop := PSs X e (liftSO X.K Wx t)
section
variable {X : Cx} {Wx : WX}

def xE (t : OS → DE) : DEO := fun _ m os Q => t os m fun v m' => Q v m' os
def xT (t : OS → DT) : DTO := fun _ m os Q => t os m fun b m' => Q b m' os
def xA (t : OS → DA) : DAO := fun _ m os Q => t os m fun vs m' => Q vs m' os
def xS (t : OS → DS) : DSO := fun _ E m os => t os ⟨fun m' => E.nx m' os, fun v m' => E.rt v m' os, fun m' => E.bk m' os, fun m' => E.ct m' os⟩ m
theorem eo_of {e : Expr} {t : OS → DE} (h : ∀ os, @JE (gho X.K os) X e (t os)) : JEO X Wx e (xE t) := ⟨fun pins s σ H Q I ⟨W, F, A, m, os, W', Qd, Ex, G, q, c, _⟩ =>
  (h os).run pins s σ H Q I ⟨W', F, A, m, _, G.G, q, fun F1 A1 v m1 H1 s1 p1 G1 q1 => c F1 A1 v m1 os H1 W' s1 p1 (G.next p1 G1) q1⟩⟩
theorem to_of {e : Expr} {t : OS → DT} (h : ∀ os, @JT (gho X.K os) X e (t os)) : JTO X Wx e (xT t) := ⟨fun pins s σ H Q I ⟨W, F, A, m, os, W', Qd, Ex, G, q, c, _⟩ =>
  (h os).run pins s σ H Q I ⟨W', F, A, m, _, G.G, q, fun F1 A1 v m1 H1 s1 p1 G1 q1 => c F1 A1 v m1 os H1 W' s1 p1 (G.next p1 G1) q1⟩⟩
theorem ao_of {e : List Expr} {t : OS → DA} (h : ∀ os, @JA (gho X.K os) X e (t os)) : JAO X Wx e (xA t) := ⟨fun p pins s σ H Q I ⟨W, F, A, m, os, W', Qd, Ex, G, q, c, _⟩ =>
  (h os).run p pins s σ H Q I ⟨W', F, A, m, _, G.G, q, fun F1 A1 v m1 H1 s1 p1 G1 q1 => c F1 A1 v m1 os H1 W' s1 p1 (G.next p1 G1) q1⟩⟩
theorem so_of {e : Stmt} {t : OS → DS} (h : ∀ os, @JS (gho X.K os) X e (t os)) : JSO X Wx e (xS t) := ⟨fun pins s σ H D I ⟨W, F, A, m, os, W', E, Ex, G, q, c, _⟩ => by
  letI : Ghost := gho X.K os
  exact (h os).run pins s σ H D I ⟨W', F, A, m, _, G.G, q, ⟨fun F1 A1 m1 σ1 H1 s1 p1 G1 q1 => c.nx F1 A1 m1 os σ1 H1 W' s1 p1 (G.next p1 G1) q1, fun F1 A1 m1 σ1 H1 v u s1 p1 G1 r1 q1 => c.rt F1 A1 m1 os σ1 H1 W' v u s1 p1 (G.next p1 G1) r1 q1,
    fun F1 A1 m1 σ1 H1 s1 p1 G1 q1 => c.bk F1 A1 m1 os σ1 H1 W' s1 p1 (G.next p1 G1) q1, fun F1 A1 m1 σ1 H1 s1 p1 G1 q1 => c.ct F1 A1 m1 os σ1 H1 W' s1 p1 (G.next p1 G1) q1⟩⟩⟩

def xNext : DSO := fun _ E m os => E.nx m os
def xSeq (t u : DSO) : DSO := fun Ex E m os => t Ex ⟨fun m1 os1 => u Ex E m1 os1, E.rt, E.bk, E.ct⟩ m os
variable {st : Stmt} {rest : List Stmt} {t u : DSO} {pos : Pos}
theorem so_nil : JSOs X Wx [] xNext := pss_nil.imp fun D σ H ⟨W, F, A, m, os, W', E, Ex, G, h, c, _⟩ => c.nx F A m os σ H W' (Same.refl _) (pre_refl _) G h
theorem so_cons (h1 : JSO X Wx st t) (h2 : JSOs X Wx rest u) : JSOs X Wx (st :: rest) (xSeq t u) := (pss_cons h1 h2).imp fun D σ H h => by
  obtain ⟨W, F, A, m, os, W', E, Ex, G, h, c, cx⟩ := h
  exact ⟨W, F, A, m, os, W', _, Ex, G, h, ⟨fun F1 A1 m1 os1 σ1 H1 W1 s1 p1 G1 q1 => ⟨W, F1, A1, m1, os1, W1, E, Ex, G1, q1, c.mono s1 p1, cx.mono s1 p1⟩, c.rt, c.bk, c.ct⟩, cx⟩
theorem so_one (h1 : JSO X Wx st t) : JSOs X Wx [st] t := pss_one h1
def xIf (ct : DTO) (t u : DSO) : DSO := fun Ex E m os => ct Ex m os fun b m1 os1 => if b = true then t Ex E m1 os1 else u Ex E m1 os1
theorem so_if {c : Expr} {a b : List Stmt} {ct : DTO} (hc : JTO X Wx c ct) (ha : JSOs X Wx a t) (hb : JSOs X Wx b u) : JSO X Wx (.If c a b pos) (xIf ct t u) := (ps_if hc ha hb).imp fun D σ H hh => by
  obtain ⟨W, F, A, m, os, W', E, Ex, G, h, c, cx⟩ := hh
  refine ⟨W, F, A, m, os, W', _, Ex, G, h, fun F1 A1 b m1 os1 H1 W1 s1 p1 G1 q1 => ?_, cx⟩
  cases b with
  | true => exact ⟨W, F1, A1, m1, os1, W1, E, Ex, G1, q1, c.mono s1 p1, cx.mono s1 p1⟩
  | false => exact ⟨W, F1, A1, m1, os1, W1, E, Ex, G1, q1, c.mono s1 p1, cx.mono s1 p1⟩
def xRet (t : DEO) : DSO := fun Ex E m os => t Ex m os fun v m1 os1 => E.rt v m1 os1
theorem so_ret {e : Expr} {te : DEO} (he : JEO X Wx e te) : JSO X Wx (.Return (some e) pos) (xRet te) := (ps_ret he).imp fun D σ H hh => by
  obtain ⟨W, F, A, m, os, W', E, Ex, G, h, c, cx⟩ := hh
  exact ⟨W, F, A, m, os, W', _, Ex, G, h, fun F1 A1 v m1 os1 H1 W1 s1 p1 G1 q1 u r1 => c.rt F1 A1 m1 os1 σ H1 W1 v u s1 p1 G1 r1 q1, cx⟩
def xDo (t : DEO) : DSO := fun Ex E m os => t Ex m os fun _ m1 os1 => E.nx m1 os1
theorem so_do {e : Expr} {te : DEO} (he : JEO X Wx e te) (hs : swapsWith e none pos.line X.env = pure false := by rfl) : JSO X Wx (.Expr e pos) (xDo te) := (ps_expr he hs).imp fun D σ H hh => by
  obtain ⟨W, F, A, m, os, W', E, Ex, G, h, c, cx⟩ := hh
  exact ⟨W, F, A, m, os, W', _, Ex, G, h, fun F1 A1 v m1 os1 H1 W1 s1 p1 G1 q1 u r1 => c.nx F1 A1 m1 os1 σ H1 W1 s1 p1 G1 q1, cx⟩
def xSet (i : Nat) (t : DEO) : DSO := fun Ex E m os => t Ex m os fun v m1 os1 => E.nx ⟨m1.sl.set i (some v), m1.st⟩ os1
theorem so_set {i : Nat} {x : Str} {pos' : Pos} {e : Expr} {te : DEO} (hN : X.N.Nodup) (s : SlotOk X i x) (he : JEO X Wx e te) (hs : swapsWith e (some (.Name x pos')) pos.line X.env = pure false := by rfl) : JSO X Wx (.Assign [.Name x pos'] e pos) (xSet i te) :=
  (ps_set hN s.hN s.hl he hs s.hf).imp fun D σ H hh => by
    obtain ⟨W, F, A, m, os, W', E, Ex, G, h, c, cx⟩ := hh
    exact ⟨W, F, A, m, os, W', _, Ex, G, h, fun F1 A1 v m1 os1 H1 W1 s1 p1 G1 q1 u r1 => c.nx F1 A1 _ os1 _ H1 W1 s1 p1 (G1.next (pre_refl _) (@Good.store (gho X.K os1) _ _ _ _ _ _ _ _ _ _ G1.G r1)) q1, cx⟩
def xWhile (c : DTO) (b : DSO) : DSO := fun Ex E m os => ∃ W : Nat → M → OS → Prop, (∃ n, W n m os) ∧ ∀ n m os, W n m os →
  c Ex m os fun k m1 os1 => if k = true then b Ex ⟨fun m2 os2 => ∃ n', n' < n ∧ W n' m2 os2, E.rt, E.nx, fun m2 os2 => ∃ n', n' < n ∧ W n' m2 os2⟩ m1 os1 else E.nx m1 os1
theorem so_while {c : Expr} {body : List Stmt} {tc : DTO} {tb : DSO} (hp : PassesOwn (model X.prog X.w) X.A X.env X.xe) (hc : JTO X Wx c tc) (hb : JSOs X Wx body tb) : JSO X Wx (.While c body [] pos) (xWhile tc tb) := by
  refine (ps_while hp hc hb).imp fun D σ H hh => ?_
  obtain ⟨W, F, A, m, os, W', E, Ex, G, h, c, cx⟩ := hh
  obtain ⟨Wi, ⟨n0, w0⟩, turn⟩ := h
  refine ⟨fun n σ' H' => ∃ F' A' m' os' W1, Same F F' ∧ A <+: A' ∧ GoodO X.K W F' A' m' os' σ' H' W1 ∧ Wi n m' os', ⟨n0, F, A, m, os, W', Same.refl _, pre_refl _, G, w0⟩, ?_⟩
  rintro n σ1 H1 ⟨F1, A1, m1, os1, W1, s1, p1, G1, w1⟩
  refine ⟨W, F1, A1, m1, os1, W1, _, Ex, G1, turn n m1 os1 w1, fun F2 A2 k m2 os2 H2 W2 s2 p2 G2 q2 => ?_, cx.mono s1 p1⟩
  cases k with
  | false => exact c.nx F2 A2 m2 os2 _ H2 W2 (s1.trans s2) (pre_trans p1 p2) G2 q2
  | true =>
    refine ⟨fun σ' H' => ∃ F' A' m' os' W3, Same F F' ∧ A <+: A' ∧ GoodO X.K W F' A' m' os' σ' H' W3 ∧ ∃ n', n' < n ∧ Wi n' m' os', fun σ' H' hN => ?_, ?_⟩
    · obtain ⟨F', A', m', os', W3, s', p', G', n', hn, w'⟩ := hN
      exact ⟨n', hn, F', A', m', os', W3, s', p', G', w'⟩
    · have c' := c.mono (s1.trans s2) (pre_trans p1 p2)
      refine ⟨W, F2, A2, m2, os2, W2, _, Ex, G2, q2, ⟨fun F3 A3 m3 os3 σ3 H3 W3 s3 p3 G3 q3 => ⟨F3, A3, m3, os3, W3, (s1.trans s2).trans s3, pre_trans (pre_trans p1 p2) p3, G3, q3⟩, c'.rt, c'.nx, fun F3 A3 m3 os3 σ3 H3 W3 s3 p3 G3 q3 => ⟨F3, A3, m3, os3, W3, (s1.trans s2).trans s3, pre_trans (pre_trans p1 p2) p3, G3, q3⟩⟩, cx.mono (s1.trans s2) (pre_trans p1 p2)⟩
end
end RT

set_option maxRecDepth 100000
set_option maxHeartbeats 4000000

namespace RT
open PySem PySem.Spec PyProof.Rows L2
theorem Good.bareG [Gh : Ghost] {K : PySem.W.Frag} {W F : Hp} {A : List Addr} {m : M} {σ : L2.St} {H : Hp} (G : Good K W F A m σ H) : Good K W F A ⟨[], m.st⟩ [] H :=
  ⟨G.ext, G.hid, G.dj, rfl, fun i v e => by simp at e, G.len, G.st, G.nd, G.tb, G.gh⟩
theorem Good.slots {g1 g2 : Ghost} {K : PySem.W.Frag} {W W2 F F' : Hp} {A A' : List Addr} {m : M} {σ : L2.St} {H H' : Hp} {st' : List Cell} (G : @Good g1 K W F A m σ H) (s : Same F F') (p : A <+: A') (G' : @Good g2 K W2 F' A' ⟨[], st'⟩ [] H') : @Good g2 K W2 F' A' ⟨m.sl, st'⟩ σ H' := by
  obtain ⟨e', h', d', _, _, l', st', nd', tb', gh'⟩ := G'
  obtain ⟨_, _, _, sl, sv, _⟩ := G
  exact @Good.mk g2 _ _ _ _ _ _ _ e' h' d' sl (fun i v e => let ⟨u, h1, h2⟩ := sv i v e; ⟨u, h1, RepV.mono s p h2⟩) l' st' nd' tb' gh'
theorem GoodO.bare {K : PySem.W.Frag} {W F : Hp} {A : List Addr} {m : M} {os : OS} {σ : L2.St} {H W' : Hp} (G : GoodO K W F A m os σ H W') : GoodO K W F A ⟨[], m.st⟩ os [] H W' :=
  ⟨G.sW, G.out, @Good.bareG (gho K os) _ _ _ _ _ _ _ G.G⟩
theorem GoodO.back {K : PySem.W.Frag} {W F F' : Hp} {A A' : List Addr} {m : M} {os os' : OS} {σ : L2.St} {H H' W1 W2 : Hp} {st' : List Cell} (G : GoodO K W F A m os σ H W1) (s : Same F F') (p : A <+: A') (G' : GoodO K W F' A' ⟨[], st'⟩ os' [] H' W2) : GoodO K W F' A' ⟨m.sl, st'⟩ os' σ H' W2 :=
  ⟨G'.sW, G'.out, G.G.slots s p G'.G⟩

def xNil : DAO := fun _ m os Q => Q [] m os
def xCons (t : DEO) (ts : DAO) : DAO := fun Ex m os Q => t Ex m os fun v m1 os1 => ts Ex m1 os1 fun vs m2 os2 => Q (v :: vs) m2 os2
section
variable {X : Cx} {Wx : WX} {pos : Pos}
theorem ao_nil : JAO X Wx [] xNil := pa_nil.imp fun σ H Q ⟨W, F, A, m, os, W', Qd, Ex, G, h, c, _⟩ => c F A [] m os H W' (Same.refl _) (pre_refl _) G h [] rfl
theorem ao_cons {e : Expr} {es : List Expr} {t : DEO} {ts : DAO} (h : JEO X Wx e t) (hs : JAO X Wx es ts) (he : starEach (e :: es) X.env = (false, eval e X.env) :: starEach es X.env := by rfl) : JAO X Wx (e :: es) (xCons t ts) := by
  refine (pa_cons h hs he).imp fun σ H Q hh => ?_
  obtain ⟨W, F, A, m, os, W', Qd, Ex, G, h, c, cx⟩ := hh
  refine ⟨W, F, A, m, os, W', _, Ex, G, h, fun F1 A1 v m1 os1 H1 W1 s1 p1 G1 q1 u r1 => ⟨W, F1, A1, m1, os1, W1, _, Ex, G1, q1, fun F2 A2 vs m2 os2 H2 W2 s2 p2 G2 q2 us r2 => ?_, cx.mono s1 p1⟩, cx⟩
  exact c F2 A2 (v :: vs) m2 os2 H2 W2 (s1.trans s2) (pre_trans p1 p2) G2 q2 (u :: us) ⟨u, us, rfl, RepV.mono s2 p2 r1, r2⟩

abbrev EXS := Str → Dt → List Cell → OS → Prop
abbrev FSpecO := List Vl → List Cell → OS → (Vl → List Cell → OS → Prop) → EXS → Prop
def liftSpO (K : PySem.W.Frag) (sp : FSpecO) : Sp := fun vs H Q E => ∃ W F A st os W' args Qd Ex, GoodO K W F A ⟨[], st⟩ os [] H W' ∧ RepVs K F A args vs ∧ sp args st os Qd Ex ∧
  (∀ F' A' st' os' H' W2 r u, Same F F' → A <+: A' → GoodO K W F' A' ⟨[], st'⟩ os' [] H' W2 → RepV K F' A' r u → Qd r st' os' → Q u H') ∧
  (∀ F' A' st' os' H' W2 x d v dd, Same F F' → A <+: A' → GoodO K W F' A' ⟨[], st'⟩ os' [] H' W2 → XFld K W2 F' H' x d dd → PySem.W.nsIn K mainGlobals x = some (some v) → Ex x d st' os' → E v dd H')
def FnO (P : Program) (w : World) (K : PySem.W.Frag) (mg : Str → Option Value) (base : Heap) (x : Str) (k : Nat) (sp : FSpecO) : Prop :=
  ∃ (f : Addr) (fd : FuncData) (ps : List Str), Fnn P w K mg base (L2.CX P w) k f fd ps (liftSpO K sp) ∧ mg x = some (.ref f) ∧ PySem.W.keepIn K (.ref f) = true ∧ Binds K fd ps []
def xCall (sp : FSpecO) (ts : DAO) : DEO := fun Ex m os Q => ts Ex m os fun vs m1 os1 => sp vs m1.st os1 (fun r st' os' => Q r ⟨m1.sl, st'⟩ os') (fun x d st' os' => Ex x d ⟨m1.sl, st'⟩ os')
theorem lift_spO {K : PySem.W.Frag} {sp : FSpecO} {W F : Hp} {A : List Addr} {m : M} {os : OS} {σ : L2.St} {H W' : Hp} {vs : List Vl} {us : List V} {Qd : Vl → M → OS → Prop} {Ex : EXO} {Q : VK} (G : GoodO K W F A m os σ H W') (r : RepVs K F A vs us)
    (h : sp vs m.st os (fun r st' os' => Qd r ⟨m.sl, st'⟩ os') (fun x d st' os' => Ex x d ⟨m.sl, st'⟩ os'))
    (c : AfterO K W F A σ Qd (fun F' A' v H' => ∀ u, RepV K F' A' v u → Q u H')) (cx : AfterX K W F A Ex Wx) : liftSpO K sp us H Q (WE Wx σ) :=
  ⟨W, F, A, m.st, os, W', vs, _, _, G.bare, r, h, fun F2 A2 st2 os2 H2 W2 r u s2 p2 G2 r2 q2 => c F2 A2 r _ os2 H2 W2 s2 p2 (G.back s2 p2 G2) q2 u r2,
    fun F2 A2 st2 os2 H2 W2 x d v dd s2 p2 G2 xf e q2 => cx F2 A2 _ os2 σ H2 W2 x d v dd s2 p2 (G.back s2 p2 G2) xf e q2⟩
theorem eo_call {j k : Nat} {x : Str} {p : Pos} {e : Expr} {es : List Expr} {ts : DAO} {sp : FSpecO} (F : FnO X.prog X.w X.K X.mg X.base x j sp) (hr : GRoom k X.A) (hg : Gl X x) (tk : Takes X Wx) (ha : JAO X Wx (e :: es) ts) (hj : j ≤ k := by decide) (hdb : (x == ("__debug__" : Str)) = false := by decide)
    (he : starEach (e :: es) X.env = (false, eval e X.env) :: starEach es X.env := by rfl) (hpl : (backTo pos (starEach es X.env)).any (·.1) = false := by rfl) : JEO X Wx (.Call (.Name x p) (e :: es) [] pos) (xCall sp ts) := by
  obtain ⟨f, fd, ps, F, hm, hk, hb⟩ := F
  refine ⟨fun pins s σ H Q I h => ?_⟩
  obtain ⟨W, Fr, A, m, os, W', Qd, Ex, G, h, c, cx⟩ := h
  refine wpAny_Call_Name_kw (ld_glob I hg hm ?_ hdb)
  refine PySem.W.callWith_K (h₀ := X.base) I.ok.mod.kin hk (thn (ha.run pos pins s σ H (fun us H1 => liftSpO X.K sp us H1 Q (WE Wx σ)) I ?_) fun us s1 ⟨vs, H1, I1, r, q⟩ => ⟨I1.kIn, ?_⟩) he hpl
  · exact ⟨W, Fr, A, m, os, W', _, Ex, G, h, fun F1 A1 vs m1 os1 H1 W1 s1 p1 G1 q1 us r1 => lift_spO G1 r1 q1 (fun F2 A2 v m2 os2 H2 W2 s2 p2 => c F2 A2 v m2 os2 H2 W2 (s1.trans s2) (pre_trans p1 p2)) (cx.mono s1 p1), cx⟩
  · exact run_fnX F (hr.mono hj) hb (passAt tk σ) I1 r q

def spOO (n N : Nat) (b : DSO) : FSpecO := fun args st os Q Ex => args.length = n ∧ b (fun x d m os => Ex x d m.st os) ⟨fun m os => Q (.d .non) m.st os, fun v m os => Q v m.st os, fun _ _ => False, fun _ _ => False⟩ (startM N args st) os
theorem mk_bare {K : PySem.W.Frag} {W F : Hp} {A : List Addr} {st : List Cell} {os : OS} {H W' : Hp} {args : List Vl} {us : List V} {N : Nat} (G : GoodO K W F A ⟨[], st⟩ os [] H W') (r : RepVs K F A args us) (hl : args.length ≤ N) (Nl : List Str) (eN : Nl.length = N) :
    GoodO K W F A (startM N args st) os (L2.start Nl us) H W' := by
  have rl := r.length
  obtain ⟨sW, out, g⟩ := G
  obtain ⟨e', h', d', _, _, l', st', nd', tb', gh'⟩ := g
  refine ⟨sW, out, @Good.mk (gho K os) _ _ _ _ _ _ _ e' h' d' ?_ (fun i v e => ?_) l' st' nd' tb' gh'⟩
  · unfold startM L2.start
    simp [rl, eN]
  · unfold startM at e
    unfold L2.start
    rw [eN, ← rl]
    exact repVs_slots r _ i v e
theorem fnO_of {P : Program} {w : World} {K : PySem.W.Frag} {mg : Str → Option Value} {base : Heap} {y qual : Str} {params : Arguments} {body : List Stmt} {scope : Scope} {kws : List (Str × V)} {f : Addr} {fd : FuncData} {N ps : List Str} {k n m : Nat} {b : DSO} (hns : BaseOk K mg base) (htr : P.given.tree = none)
    (F : FunD K y qual params body scope [] kws f fd) (S : FnScope N ps scope) (hn : ps.length = n) (hN : N.length = m) (hnm : n ≤ m)
    (hd : ∀ (X : Cx) (Wx : WX) (cdv : Value) (A : Around) (outer : List Env) (s : Shared) (H : Hp) (E : XK), X = cxOf (L2.CX P w) P w K mg base N qual scope f cdv A outer s H E → Takes X Wx → CodeIs K f cdv → Amb k X → JSOs X Wx body b) :
    Fnn P w K mg base (L2.CX P w) (k + 1) f fd ps (liftSpO K (spOO n m b)) := by
  subst hn hN
  obtain ⟨oc, od, dV, kV, doc, pm, an, cdv, ct, osl, rfl, lk, hcd, _, _⟩ := F.ex
  refine fnn_of hns htr lk hcd S (fun vs H Q E h => ?_) fun A outer s H vs Q E amb h => ?_
  · obtain ⟨W, F1, A1, st1, os, W', args, Qd, Ex, G, r, q, c, cx⟩ := h
    rw [← r.length]
    exact q.1
  · obtain ⟨W, F1, A1, st1, os, W', args, Qd, Ex, G, r, q, c, cx⟩ := h
    refine ⟨_, hd (cxOf (L2.CX P w) P w K mg base N qual scope f cdv A outer s H E) (fun cls d _ H => E cls d H) cdv A outer s H E rfl (takes_of rfl rfl rfl rfl) ⟨oc, od, _, osl, lk, rfl⟩ amb, ?_⟩
    refine ⟨W, F1, A1, startM N.length args st1, os, W', _, _, mk_bare G r (by rw [q.1]; exact hnm) N rfl, q.2, ⟨?_, ?_, ?_, ?_⟩, ?_⟩
    · exact fun F' A' m' os' σ' H' W2 s' p' G' q' => c F' A' _ os' H' W2 (.d .non) .non s' p' G'.bare rv_non q'
    · exact fun F' A' m' os' σ' H' W2 v u s' p' G' r' q' => c F' A' _ os' H' W2 v u s' p' G'.bare r' q'
    · exact fun _ _ _ _ _ _ _ _ _ _ q' => q'
    · exact fun _ _ _ _ _ _ _ _ _ _ q' => q'
    · exact fun F' A' m' os' σ' H' W2 x d v dd s' p' G' xf e q' => cx F' A' _ os' H' W2 x d v dd s' p' G'.bare xf e q'
theorem mkO {P : Program} {w : World} {K : PySem.W.Frag} {mg : Str → Option Value} {base : Heap} {x y qual : Str} {params : Arguments} {body : List Stmt} {scope : Scope} {kws : List (Str × V)} {f : Addr} {fd : FuncData} {N ps : List Str} {k n m : Nat} {b : DSO} (hns : BaseOk K mg base) (htr : P.given.tree = none)
    (F : FunD K y qual params body scope [] kws f fd) (hm : mg x = some (.ref f)) (S : FnScope N ps scope) (hn : ps.length = n) (hN : N.length = m) (hnm : n ≤ m)
    (hb : ∀ (kV doc pm : Value) (an : Option Addr) (cdv ct : Value) (us : List Value), us.length = ps.length → bindArgs (PySem.W.fnOf y qual params body scope .none kV doc pm an cdv ct) ⟨us, []⟩ = pure (ps.zip us))
    (hd : ∀ (X : Cx) (Wx : WX) (cdv : Value) (A : Around) (outer : List Env) (s : Shared) (H : Hp) (E : XK), X = cxOf (L2.CX P w) P w K mg base N qual scope f cdv A outer s H E → Takes X Wx → CodeIs K f cdv → Amb k X → JSOs X Wx body b) :
    FnO P w K mg base x (k + 1) (spOO n m b) := ⟨f, fd, ps, fnO_of hns htr F S hn hN hnm hd, hm, F.kp, F.bindsN hb⟩
def spBr (kp : Bool) (sp : FSpecO) : FSpec := fun args st Q => sp args st [] (fun v st' _ => retD kp st.length Q v ⟨[], st'⟩) (fun _ _ _ _ => False)
theorem Good.unO {K : PySem.W.Frag} {W F : Hp} {A : List Addr} {m : M} {os : OS} {σ : L2.St} {H W' : Hp} (G : GoodO K W F A m os σ H W') : GoodT K W F A m σ H := by
  obtain ⟨sW, _, g⟩ := G
  obtain ⟨e', h', d', sl, sv, l', st', nd', tb', _⟩ := g
  have wn : ∀ {b : Addr}, W' b = none → W b = none := fun {b} h => by
    cases q : W b with
    | none => rfl
    | some o => rw [sW _ _ q] at h; cases h
  exact @Good.mk Ghost.tt _ _ _ _ _ _ _ e' (sW.trans h') (fun a o e => d' a o (sW _ _ e)) sl sv l' (fun k xs e => let ⟨a, vs, h1, h2, h3, h4, h5⟩ := st' k xs e; ⟨a, vs, h1, h2, h3, h4, wn h5⟩) nd' (fun q hq => ⟨(tb' q hq).1, (tb' q hq).2.1, wn (tb' q hq).2.2⟩) True.intro
theorem osOk_nil {K : PySem.W.Frag} {W F : Hp} {A : List Addr} : OsOk K [] W F A := ⟨fun _ _ _ e => by simp at e, fun _ _ _ _ e => by simp at e, fun _ _ _ _ _ _ _ e => by simp at e⟩
theorem Good.toO {K : PySem.W.Frag} {W F : Hp} {A : List Addr} {m : M} {σ : L2.St} {H : Hp} {g : Ghost} (G : @Good g K W F A m σ H) : GoodO K W F A m [] σ H W :=
  ⟨Same.refl _, fun _ _ _ _ e => by simp at e, @Good.regh g (gho K []) _ _ _ _ _ _ _ G osOk_nil⟩
theorem fn_br {P : Program} {w : World} {K : PySem.W.Frag} {mg : Str → Option Value} {base : Heap} {k : Nat} {f : Addr} {fd : FuncData} {ps : List Str} {sp : FSpecO} (kp : Bool) (F : Fnn P w K mg base (L2.CX P w) k f fd ps (liftSpO K sp)) : Fnn P w K mg base CX0 k f fd ps (liftSp K (spBr kp sp)) := by
  have up : ∀ vs H Q (E : XK), liftSp K (spBr kp sp) vs H Q E → liftSpO K sp vs H Q (fun _ _ _ => False) := fun vs H Q E h => by
    obtain ⟨W, F, A, st, args, Qd, G, r, q, c⟩ := h
    have hl : A.length = st.length := by
      obtain ⟨_, _, _, _, _, l, _⟩ := G
      exact l
    refine ⟨W, F, A, st, [], W, args, _, _, Good.toO G, r, q, fun F' A' st' os' H' W2 r u s' p' G' r' q' => ?_, fun _ _ _ _ _ _ _ _ _ _ _ _ _ _ _ z => z.elim⟩
    exact retD_ok hl s' p' (Good.unO G') r' q' c
  refine ⟨fun vs H Q E h => F.len vs H Q _ (up vs H Q E h), fun A outer s H args us vs Q E hr e0 hb r h => codeAny_mono (F.run A outer s H args us vs Q _ hr e0 hb r (up vs H Q E h)) fun r s' z => ?_⟩
  cases r with
  | ok v => cases v <;> exact z
  | error e =>
    obtain ⟨_, _, _, _, _, _, _, _, _, _, _, _, z⟩ := z
    exact z.elim
theorem FnO.br {P : Program} {w : World} {K : PySem.W.Frag} {mg : Str → Option Value} {base : Heap} {x : Str} {k : Nat} {sp : FSpecO} (kp : Bool) (F : FnO P w K mg base x k sp) : FnG P w K mg base x k (spBr kp sp) [] := by
  obtain ⟨f, fd, ps, F, hm, hk, hb⟩ := F
  exact ⟨f, fd, ps, [], [], fn_br kp F, hm, hk, hb, .nil, fun _ _ => rfl⟩
end
end RT

set_option maxRecDepth 100000
set_option maxHeartbeats 4000000

namespace RT
open PySem PySem.Spec PyProof.Rows L2
theorem GRoom.make {k : Nat} {A : Around} (r : GRoom (k + 1) A) (C : Addr) (us : List Value) : GRoom k (A.under (.builtin "type.__call__" ⟨.ref C :: us, []⟩)) :=
  ⟨r.room.make C us [], by first | exact r.gd | (have := r.gd; simpa [Around.under, Code.isGuard, guardIds] using this), by have := r.dp; rw [make_depth]; omega⟩
theorem pmk_oexN {X : Cx} {CX : CXT} {x : Str} {C fI : Addr} {k : Nat} {fd : FuncData} {ps : List Str} {sp : Sp} {e : Expr} {es : List Expr} {ta : TA} {p pos : Pos} (T : OexC X.K C) (iC : PySem.W.findIn X.K (.ref C) "__init__" = some (some (.ref fI))) (tI : PySem.W.typeIn X.K (.ref fI) = some (.type "function"))
    (F1 : Fnn X.prog X.w X.K X.mg X.base CX k fI fd ps sp) (hr : GRoom (k + 1) X.A) (hb : Binds X.K fd ps []) (hx : Passes CX X (fun _ _ _ => False)) (hg : Gl X x) (hm : X.mg x = some (.ref C)) (ha : PA X (e :: es) ta)
    (hdb : (x == ("__debug__" : Str)) = false := by decide) (he : starEach (e :: es) X.env = (false, eval e X.env) :: starEach es X.env := by rfl) (hpl : (backTo pos (starEach es X.env)).any (·.1) = false := by rfl) :
    PMk X (.Call (.Name x p) (e :: es) [] pos) (tMkO C sp [] ta) := by
  intro pins s σ H Q I h
  obtain ⟨nm, q, N, bs, bm, sn, sub, ab, col, dd, k0, k1, k2, k3, k5, hC, hbm⟩ := T.cls
  refine wpAny_Call_Name_kw (ld_glob I hg hm ?_ hdb)
  refine PySem.W.callWith_K (h₀ := X.base) I.ok.mod.kin T.kC (thn (ha.run pos pins s σ H _ I h) fun us s1 ⟨vs, H1, I1, r1, hz, q1⟩ => ⟨I1.kIn, ?_⟩) he hpl
  show wpAny _ _ (call (.ref C) us) _ _ _
  obtain ⟨hp, g, dr, tk, os⟩ := s1
  have hsz : hp.objs.size ≤ hp.objs.size + 1 := Nat.le_succ _
  have hn : H1 (hp.objs.size + 1) = none := I1.hok.fresh hsz
  have hq := q1 (hp.objs.size + 1) hn
  have kk : ∀ b o, hp.get? b = some o → ((hp.push (PySem.W.kdv_tup us)).push (PySem.HandSPX.excO C hp.objs.size)).get? b = some o := fun b o e => Heap.get?_push_of_some _ (Heap.get?_push_of_some _ e)
  have hget : ((hp.push (PySem.W.kdv_tup us)).push (PySem.HandSPX.excO C hp.objs.size)).get? (hp.objs.size + 1) = some (PySem.HandSPX.excO C hp.objs.size) := by heap_get
  have I2 : L2.Inv X pins σ (upd H1 (hp.objs.size + 1) (exo (hp.objs.size + 1) C none)) ⟨(hp.push (PySem.W.kdv_tup us)).push (PySem.HandSPX.excO C hp.objs.size), g, dr, tk, os⟩ :=
    I1.laid (t' := tk) (a := hp.objs.size + 1) (o := exo (hp.objs.size + 1) C none) (h' := (hp.push (PySem.W.kdv_tup us)).push (PySem.HandSPX.excO C hp.objs.size)) kk hsz (exo_ok hget)
  rw [List.append_nil] at hq
  have r2 : Vals (V.ref (hp.objs.size + 1) :: vs) (Value.ref (hp.objs.size + 1) :: us) := .cons rfl r1
  have hl : (Value.ref (hp.objs.size + 1) :: us).length = ps.length := by
    have e := r2.length
    rw [F1.len _ _ _ _ hq] at e
    exact e.symm
  have hus : us.length ≤ sizeLine := by
    rw [← Paired.length r1, sizeLine_eq]
    omega
  have bd := hb _ (Value.ref (hp.objs.size + 1) :: us) I2.kIn (by rw [List.append_nil]; exact hl)
  rw [List.append_nil] at bd
  refine wpAny_call (PySem.HandSPX.call_own F.excBase_ValueError (fun Y => PySem.HandSPX.refsVE_contains Y bm hbm) (I1.kIn _ _ hC) (PySem.W.looks_findIn I1.kIn iC) (fun self => PySem.W.bind_fn I1.kIn self tI) hus
    (codeAny_mono (F1.run _ X.stack _ _ ⟨Value.ref (hp.objs.size + 1) :: us, []⟩ (Value.ref (hp.objs.size + 1) :: us) _ _ (fun _ _ _ => False) (hr.make C us) (I2.env0.make C us []) bd r2 hq) fun r s' hq' => ?_))
  cases r with
  | error er => exact hx pins σ _ _ er s' I2 hq'
  | ok fl =>
    cases fl with
    | ret u =>
      obtain ⟨v, H2, os2, bare2, un2, hok2, rv, ev, d, fs, ea, ed, hd1, q2⟩ := hq'
      subst ev
      obtain ⟨h2, g2, d2, t2, os'⟩ := s'
      exact ⟨rv, mk_end (raises_own T.exC T.tyC) I1 hsz kk un2 hok2 os2 bare2 ea ed hd1 q2⟩
    | next => exact False.elim hq'
    | brk => exact False.elim hq'
    | cont => exact False.elim hq'
def ErrI (P : Program) (w : World) (K : PySem.W.Frag) (mg : Str → Option Value) (base : Heap) (x : Str) (k : Nat) : Prop := ∃ (C fI : Addr) (fd : FuncData) (arg f : Str), OexC K C ∧ PySem.W.findIn K (.ref C) "__init__" = some (some (.ref fI)) ∧ PySem.W.typeIn K (.ref fI) = some (.type "function") ∧
  Fnn P w K mg base CX0 k fI fd ["self", arg] (spEI K C f) ∧ Binds K fd ["self", arg] [] ∧ mg x = some (.ref C) ∧ PySem.W.nsIn K mainGlobals x = some (some (.ref C)) ∧ fldOf x = some f
theorem Good.extra [Gh : Ghost] {K : PySem.W.Frag} {W F : Hp} {A : List Addr} {m : M} {σ : L2.St} {H : Hp} {b : Addr} {o : HO} (G : Good K W F A m σ H) (n : H b = none) : Good K W F A m σ (upd H b o) := by
  refine ⟨G.ext.trans (same_upd n), G.hid.trans (same_upd n), G.dj, G.slen, G.sl, G.len, fun k xs e => ?_, G.nd, fun q hq => ⟨tab_upd (G.tb q hq).1 n, (G.tb q hq).2⟩, G.gh⟩
  obtain ⟨a, vs, h1, h2, h3⟩ := G.st k xs e
  exact ⟨a, vs, h1, by rw [upd_ne (ne_of_none h2 n)]; exact h2, h3⟩
section
variable {X : Cx} {Wx : WX} {pos : Pos}
def xRaise (x : Str) (t : DEO) : DSO := fun Ex E m os => t Ex m os fun v m1 os1 => match v with
  | .d (.int i) => i.natAbs.log2 < 1920 ∧ Ex x (.int i) m1 os1
  | _ => False
theorem so_raise {j k : Nat} {x : Str} {e : Expr} {te : DEO} {p p2 : Pos} (E0 : ErrI X.prog X.w X.K X.mg X.base x j) (hr : GRoom k X.A) (hc : X.calm = true) (tk : Takes X Wx) (hg : Gl X x) (he : JEO X Wx e te) (hj : j + 1 ≤ k := by decide) (hdb : (x == ("__debug__" : Str)) = false := by decide)
    (hst : starEach [e] X.env = (false, eval e X.env) :: starEach [] X.env := by rfl) : JSO X Wx (.Raise (some (.Call (.Name x p) [e] [] p2)) none pos) (xRaise x te) := by
  obtain ⟨C, fI, fd, arg, f, T, iC, tI, F1, hb, hm, hns, hf⟩ := E0
  refine (ps_raise hc tk (pmk_oexN T iC tI F1 (hr.mono hj) hb pass0 hg hm (pa_cons he pa_nil hst) hdb hst rfl)).imp fun D σ H hh => ?_
  obtain ⟨W, F, A, m, os, W', E, Ex, G, h, c, cx⟩ := hh
  show liftEO X.K Wx te σ H _
  refine ⟨W, F, A, m, os, W', _, Ex, G, h, fun F1 A1 v m1 os1 H1 W1 s1 p1 G1 q1 u r1 => ⟨by show 1 ≤ 1000; decide, fun a na => ?_⟩, cx⟩
  cases v with
  | c k => exact (show False from q1).elim
  | d x' =>
    cases x' with
    | int i =>
      obtain ⟨hi, q1⟩ := q1
      have eu : u = .int i := by
        have r1' : Rep X.K F1 (.int i) u := r1
        simpa only [Rep] using r1'
      subst eu
      refine ⟨a, i, rfl, hi, upd_same, fun dx nx ne => ⟨rfl, dx, [(f, .int i)], ?_, ?_, ?_, ?_⟩⟩
      · exact upd_same
      · rw [upd_ne ne, upd_same]
      · rw [upd_ne ne] at nx
        exact nx
      · have nd : H1 dx = none := by
          rw [upd_ne ne] at nx
          exact nx
        have eH : upd (del (upd (upd (upd H1 a (exo a C none)) dx (exd dx [(f, .int i)])) a (exo a C (some dx))) a) dx (.xd [(f, .int i)]) = upd H1 dx (.xd [(f, .int i)]) := by
          funext b
          by_cases hb : b = dx
          · rw [hb, upd_same, upd_same]
          · rw [upd_ne hb, upd_ne hb]
            by_cases hba : b = a
            · rw [hba, del_same, na]
            · rw [del_ne hba, upd_ne hba, upd_ne hb, upd_ne hba]
        rw [eH]
        have wn : W1 dx = none := by
          obtain ⟨_, _, g⟩ := G1
          obtain ⟨_, hid, _⟩ := g
          exact hid.free nd
        have fn : F1 dx = none := by
          obtain ⟨_, _, g⟩ := G1
          obtain ⟨ext, _⟩ := g
          exact ext.free nd
        refine cx F1 A1 m1 os1 σ _ W1 x (.int i) _ (some dx) s1 p1 ⟨G1.sW, G1.out, @Good.extra (gho X.K os1) _ _ _ _ _ _ _ _ _ G1.G nd⟩ ?_ hns q1
        unfold XFld
        rw [hf]
        exact ⟨dx, .int i, rfl, upd_same, rep_int, fn, wn⟩
    | _ => exact (show False from q1).elim
def xRaise0 (x : Str) : DSO := fun Ex E m os => Ex x .non m os
theorem so_raise0 {x : Str} {p p2 : Pos} (E0 : ExcG X.K X.mg x) (hf : fldOf x = none) (hc : X.calm = true) (tk : Takes X Wx) (hg : Gl X x) (hdb : (x == ("__debug__" : Str)) = false := by decide) :
    JSO X Wx (.Raise (some (.Call (.Name x p) [] [] p2)) none pos) (xRaise0 x) := by
  obtain ⟨C, f, gC⟩ := E0
  refine (ps_raise hc tk (pmk_own0 PySem.F.excBase_ValueError f.ex gC f.kp (raises_own f.sub f.ty) hg hdb)).imp fun D σ H hh => ?_
  obtain ⟨W, F, A, m, os, W', E, Ex, G, h, c, cx⟩ := hh
  refine cx F A m os σ H W' x .non _ none (Same.refl _) (pre_refl _) G ?_ f.at_ h
  unfold XFld
  rw [hf]

abbrev XSu := Addr → Addr → OS → DS
def xTry (b : DSO) (i : Nat) (hs : List (Str × XSu)) : DSO := fun Ex E m os => b (fun x d m1 os1 => i < m1.sl.length ∧ ∃ t, (x, t) ∈ hs ∧ ∀ a bd : Addr,
  t a bd ((m1.st.length, .exc a ((fldOf x).map (bd, ·)) d) :: os1) ⟨fun m' => E.nx ⟨m'.sl.set i none, m'.st⟩ os1, fun v m' => E.rt v ⟨m'.sl.set i none, m'.st⟩ os1, fun m' => E.bk ⟨m'.sl.set i none, m'.st⟩ os1, fun m' => E.ct ⟨m'.sl.set i none, m'.st⟩ os1⟩
    ⟨m1.sl.set i (some (.c m1.st.length)), m1.st ++ [.dead]⟩) E m os
theorem Good.ptr [Gh : Ghost] {K : PySem.W.Frag} {W F : Hp} {A : List Addr} {m : M} {σ : L2.St} {H : Hp} (a : Addr) (G : Good K W F A m σ H) : Good K W F (A ++ [a]) ⟨m.sl, m.st ++ [.dead]⟩ σ H := by
  have pr : A <+: A ++ [a] := ⟨[a], rfl⟩
  have old : ∀ k xs, (m.st ++ [Cell.dead])[k]? = some (.lst xs) → k < m.st.length ∧ m.st[k]? = some (.lst xs) := fun k xs e => by
    by_cases hk : k < m.st.length
    · rw [List.getElem?_append_left hk] at e
      exact ⟨hk, e⟩
    · have hl := (List.getElem?_eq_some_iff.mp e).1
      rw [List.length_append, List.length_singleton] at hl
      have ek : k = m.st.length := by omega
      subst ek
      rw [List.getElem?_append_right (Nat.le_refl _), Nat.sub_self] at e
      cases e
  have at_ : ∀ k, k < m.st.length → (A ++ [a])[k]? = A[k]? := fun k hk => List.getElem?_append_left (by rw [G.len]; exact hk)
  refine ⟨G.ext, G.hid, G.dj, G.slen, fun i v e => ?_, by simp [G.len], fun k xs e => ?_, fun j k xs ys b e1 e2 h1 h2 => ?_, G.tb, Ghost.mono G.gh (SameO.refl _) (Same.refl _) pr⟩
  · obtain ⟨u, h1, h2⟩ := G.sl i v e
    exact ⟨u, h1, RepV.mono (Same.refl _) pr h2⟩
  · obtain ⟨hk, e⟩ := old k xs e
    obtain ⟨b, vs, h1, h2⟩ := G.st k xs e
    exact ⟨b, vs, (at_ k hk).trans h1, h2⟩
  · obtain ⟨hj, e1⟩ := old j xs e1
    obtain ⟨hk, e2⟩ := old k ys e2
    exact G.nd j k xs ys b e1 e2 ((at_ j hj).symm.trans h1) ((at_ k hk).symm.trans h2)
theorem Good.addW [Gh : Ghost] {K : PySem.W.Frag} {W F : Hp} {A : List Addr} {m : M} {σ : L2.St} {H : Hp} {b : Addr} {fs : List (Str × V)} (G : Good K W F A m σ H) (h : H b = some (.xd fs)) (nF : F b = none) (nW : W b = none) : Good K (upd W b (.xd fs)) F A m σ H := by
  refine ⟨G.ext, fun c o e => ?_, fun c o e => ?_, G.slen, G.sl, G.len, fun k xs e => ?_, G.nd, fun q hq => ?_, Ghost.mono G.gh (SameO.of (same_upd nW)) (Same.refl _) (pre_refl _)⟩
  · by_cases hc : c = b
    · rw [hc, upd_same] at e
      cases e
      rw [hc]
      exact h
    · rw [upd_ne hc] at e
      exact G.hid c o e
  · by_cases hc : c = b
    · rw [hc]
      exact nF
    · rw [upd_ne hc] at e
      exact G.dj c o e
  · obtain ⟨a, vs, h1, h2, h3, h4, h5⟩ := G.st k xs e
    have ne : a ≠ b := fun z => by rw [z, h] at h2; cases h2
    exact ⟨a, vs, h1, h2, h3, h4, by rw [upd_ne ne]; exact h5⟩
  · obtain ⟨⟨ps, t1, ok⟩, t2, t3⟩ := G.tb q hq
    have ne : q.2 ≠ b := fun z => by rw [z, h] at t1; cases t1
    exact ⟨⟨ps, t1, ok⟩, t2, by rw [upd_ne ne]; exact t3⟩
theorem Good.unset [Gh : Ghost] {K : PySem.W.Frag} {W F : Hp} {A : List Addr} {m : M} {σ : L2.St} {H : Hp} (G : Good K W F A m σ H) (i : Nat) : Good K W F A ⟨m.sl.set i none, m.st⟩ (σ.set i none) H := G.wipe [i]
theorem GoodO.unsuite {K : PySem.W.Frag} {W F1 F2 : Hp} {A1 A2 : List Addr} {m1 m2 : M} {os1 os2 : OS} {σ1 σ2 : L2.St} {H1 H2 W1 W2 : Hp} (G1 : GoodO K W F1 A1 m1 os1 σ1 H1 W1) (sW : Same W1 W2) (s : Same F1 F2) (p : A1 <+: A2) (G2 : @Good (gho K os2) K W2 F2 A2 m2 σ2 H2) (i : Nat) :
    GoodO K W F2 A2 ⟨m2.sl.set i none, m2.st⟩ os1 (σ2.set i none) H2 W2 :=
  ⟨G1.sW.trans sW, fun k c fs a e h => by
    obtain ⟨a0, _, _, _, g1, _⟩ := (Good.ghp G1.G).ob k c fs e
    have := pre_get p g1
    rw [h] at this
    cases this
    exact G1.out k c fs a e g1, (@Good.unset (gho K os2) _ _ _ _ _ _ _ G2 i).regh (OsOk.mono (Good.ghp G1.G) (SameO.of sW) s p)⟩
theorem so_try {y n : Str} {cy : Value} {i : Nat} {body suite : List Stmt} {b₀ : Stmt} {np pos' : Pos} {b : DSO} {hs : List (Str × XSu)} (h1 : X.stack = X.env :: X.outer) (h2 : X.env.frame = some X.env.locals) (hN : X.N.Nodup) (hi : X.N[i]? = some n) (hln : X.env.kindOf n = some .local) (tk : Takes X Wx)
    (hg : Gl X y) (hm : X.mg y = some cy) (hdb : (y == ("__debug__" : Str)) = false)
    (hx : ∀ x t, (x, t) ∈ hs → ∀ v, PySem.W.nsIn X.K mainGlobals x = some (some v) → PySem.W.exmOne X.K v cy = some true)
    (hb : ∀ (W : WX) (pn : List (Addr × Obj)) (xe : Value → Shared → Prop), Takes (X.tr pn xe) W → PassesOwn (model X.prog X.w) X.A X.env xe → JSOs (X.tr pn xe) W body b)
    (hsu : ∀ (a bd : Addr) (oe : Obj) (pn : List (Addr × Obj)) (x : Str) (t : XSu) (v : Value) (os : OS), (x, t) ∈ hs → PySem.W.nsIn X.K mainGlobals x = some (some v) → Zc v ((fldOf x).map fun _ => bd) oe → (∃ vs, oe.data = .fields vs) → @JSs (gho X.K os) (X.suite a ((a, oe) :: pn)) (b₀ :: suite) (t a bd os)) :
    JSO X Wx (.Try body [.ExceptHandler (some (.Name y np)) (some n) (b₀ :: suite) pos'] [] [] pos) (xTry b i hs) := by
  have hc : Names X y cy := ⟨hg, hdb, .inl hm⟩
  let ts : Addr → Value → Option Addr → TS := fun a cls d D σ H => ∃ (x : Str) (t : XSu) (os : OS) (bd : Addr), (x, t) ∈ hs ∧ PySem.W.nsIn X.K mainGlobals x = some (some cls) ∧ d = (fldOf x).map (fun _ => bd) ∧ @liftS (gho X.K os) X.K (t a bd os) D σ H
  refine (ps_try_as (tb := fun W => liftSO X.K W b) (ts := ts) (Wout := Wx) h1 h2 hN hi hln hc tk hb fun a oe cls d pn hz hf => ?_).imp fun D σ H hh => ?_
  · refine ⟨fun pins s σ H D I ⟨x, t, os, bd, hmem, hv, hd, h⟩ => ?_⟩
    subst hd
    exact (hsu a bd oe pn x t cls os hmem hv hz hf).run pins s σ H D I h
  · obtain ⟨W, F, A, m, os, W', E, Ex, G, h, c, cx⟩ := hh
    refine ⟨W, F, A, m, os, W', E, _, G, h, c, fun F1 A1 m1 os1 σ1 H1 W1 x d v dd s1 p1 G1 xf ev q => ?_⟩
    obtain ⟨hil, t, hmem, q⟩ := q
    refine ⟨true, hx x t hmem v ev, fun _ a na => ?_, fun z => by cases z⟩
    -- the state in which the suite begins
    have hN1 : m1.st.length = A1.length := by
      obtain ⟨_, _, g⟩ := G1
      obtain ⟨_, _, _, _, _, l, _⟩ := g
      exact l.symm
    have nlk : os1.lookup m1.st.length = none ∨ ∃ o, os1.lookup m1.st.length = some o := by
      cases z : os1.lookup m1.st.length with
      | none => exact .inl rfl
      | some o => exact .inr ⟨o, rfl⟩
    have free : os1.lookup m1.st.length = none := by
      rcases nlk with z | ⟨o, z⟩
      · exact z
      · have at0 : A1[m1.st.length]? = none := by rw [hN1]; simp
        cases o with
        | obj c' fs =>
          obtain ⟨a0, _, _, _, g1, _⟩ := (Good.ghp G1.G).ob _ _ _ z
          rw [at0] at g1
          cases g1
        | exc a' dd' d' =>
          obtain ⟨g1, _⟩ := (Good.ghp G1.G).ex _ _ _ _ z
          rw [at0] at g1
          cases g1
    have pr : A1 <+: A1 ++ [a] := ⟨[a], rfl⟩
    have an : (A1 ++ [a])[m1.st.length]? = some a := by rw [hN1]; simp
    have ho : (gho X.K os1).p = OsOk X.K os1 := rfl
    let G2 := @Good.ptr (gho X.K os1) _ _ _ _ _ _ _ a G1.G
    -- the exception's dict
    obtain ⟨bd, W2, sW2, hd, hrel, G3⟩ : ∃ (bd : Addr) (W2 : Hp), Same W1 W2 ∧ dd = (fldOf x).map (fun _ => bd) ∧ (∀ b f, (fldOf x).map (bd, ·) = some (b, f) → ∃ u, W2 b = some (.xd [(f, u)]) ∧ Rep X.K F1 d u) ∧ @Good (gho X.K os1) X.K W2 F1 (A1 ++ [a]) ⟨m1.sl, m1.st ++ [.dead]⟩ σ1 H1 := by
      unfold XFld at xf
      cases hf : fldOf x with
      | none =>
        rw [hf] at xf
        exact ⟨0, W1, Same.refl _, xf, fun b f z => by simp at z, G2⟩
      | some f =>
        rw [hf] at xf
        obtain ⟨b, u, rfl, hb1, ru, nF, nW⟩ := xf
        refine ⟨b, upd W1 b (.xd [(f, u)]), same_upd nW, rfl, fun b' f' z => ?_, @Good.addW (gho X.K os1) _ _ _ _ _ _ _ _ _ G2 hb1 nF nW⟩
        simp at z
        obtain ⟨rfl, rfl⟩ := z
        exact ⟨u, upd_same, ru⟩
    have G4 := @Good.store (gho X.K os1) _ _ _ _ _ _ _ i (.c m1.st.length) (.ref a) G3 ⟨a, an, rfl⟩
    let osx : OS := (m1.st.length, .exc a ((fldOf x).map (bd, ·)) d) :: os1
    have ghx : OsOk X.K osx W2 F1 (A1 ++ [a]) := by
      have h0 := OsOk.mono (Good.ghp G1.G) (SameO.of sW2) (Same.refl F1) pr
      have sk : ∀ k o, osx.lookup k = some o → (k = m1.st.length ∧ o = .exc a ((fldOf x).map (bd, ·)) d) ∨ (os1.lookup k = some o) := fun k o e => by
        by_cases hk : k = m1.st.length
        · subst hk
          have e' : some (OCell.exc a ((fldOf x).map (bd, ·)) d) = some o := by
            simpa [osx, List.lookup] using e
          exact .inl ⟨rfl, (Option.some.inj e').symm⟩
        · have hb : (k == m1.st.length) = false := by simpa using hk
          exact .inr (by simpa [osx, List.lookup, hb] using e)
      refine ⟨fun k c' fs e => ?_, fun k a' dd' d' e => ?_, fun j k c1 f1 c2 f2 b e1 e2 p1 p2 => ?_⟩
      · rcases sk k _ e with ⟨_, z⟩ | z
        · cases z
        · exact h0.ob k c' fs z
      · rcases sk k _ e with ⟨rfl, z⟩ | z
        · cases z
          exact ⟨an, hrel⟩
        · exact h0.ex k a' dd' d' z
      · rcases sk j _ e1 with ⟨_, z⟩ | z1
        · cases z
        · rcases sk k _ e2 with ⟨_, z⟩ | z2
          · cases z
          · exact h0.nd j k c1 f1 c2 f2 b z1 z2 p1 p2
    have G5 : @Good (gho X.K osx) X.K W2 F1 (A1 ++ [a]) ⟨m1.sl.set i (some (.c m1.st.length)), m1.st ++ [.dead]⟩ (σ1.set i (some (.ref a))) H1 := G4.regh ghx
    refine ⟨x, t, osx, bd, hmem, ev, hd, ?_⟩
    letI : Ghost := gho X.K osx
    refine ⟨W2, F1, A1 ++ [a], _, _, G5, q a bd, ⟨fun F2 A2 m2 σ2 H2 s2 p2 g q2 => ?_, fun F2 A2 m2 σ2 H2 v2 u2 s2 p2 g r2 q2 => ?_, fun F2 A2 m2 σ2 H2 s2 p2 g q2 => ?_, fun F2 A2 m2 σ2 H2 s2 p2 g q2 => ?_⟩⟩
    · exact c.nx F2 A2 _ os1 _ H2 W2 (s1.trans s2) (pre_trans p1 (pre_trans pr p2)) (GoodO.unsuite G1 sW2 s2 (pre_trans pr p2) g i) q2
    · exact c.rt F2 A2 _ os1 _ H2 W2 v2 u2 (s1.trans s2) (pre_trans p1 (pre_trans pr p2)) (GoodO.unsuite G1 sW2 s2 (pre_trans pr p2) g i) r2 q2
    · exact c.bk F2 A2 _ os1 _ H2 W2 (s1.trans s2) (pre_trans p1 (pre_trans pr p2)) (GoodO.unsuite G1 sW2 s2 (pre_trans pr p2) g i) q2
    · exact c.ct F2 A2 _ os1 _ H2 W2 (s1.trans s2) (pre_trans p1 (pre_trans pr p2)) (GoodO.unsuite G1 sW2 s2 (pre_trans pr p2) g i) q2
end
end RT

set_option maxRecDepth 100000
set_option maxHeartbeats 4000000

namespace RT
open PySem PySem.Spec PySem.Calls PyProof.Rows L2 PySem.W
section
variable {prog : Program} {w : World} {A : Around} {E : Value → Shared → Prop} {s : Shared} {K : Frag} {x D : Addr} {ox : Obj} {od : Option Obj}
theorem findObj_dataD {C : Addr} {name : Str} {a g : Value} (hc : (clsIn K C).isSome = true) (ha : findIn K (.ref C) name = some (some a)) (hg : specialIn K a "__get__" = some (some g)) (ht : takesIn K a = some true) : findObj K C od name = some (.bind g a) := by
  obtain ⟨cd, hc⟩ := Option.isSome_iff_exists.mp hc
  unfold findObj
  rw [hc, Option.bind_some, ha, Option.bind_some]
  simp [hg, ht]
theorem kin_classD {Q : Option Value → Shared → Prop} (hga : findIn K (.ref D) "__getattribute__" = some (some (.builtin "BaseException.__getattribute__"))) (hgt : findIn K (.ref D) "__getattr__" = some none) (hsub : subIn K (.ref D) (.type "BaseException") = some true)
    (hdct : hasDictIn K D = true) (ha : findIn K (.ref D) "__class__" = some (some (.builtin "object.__class__")))
    (hn : specialIn K (.builtin "object.__class__") "__get__" = some (some (.builtin "getset_descriptor.__get__"))) (htk : takesIn K (.builtin "object.__class__") = some true) (hm : mroIn K D (.type "object") = some true)
    (X : K.In s.heap) (I : PySem.W.InstAt s.heap x ox D od) (h : Q (some (.ref D)) { s with toks := s.toks + 1 }) : wpAny (model prog w) A (getAttr? (.ref x) "__class__") Q E s := by
  have hf : findObj K D od "__class__" = some (.bind (.builtin "getset_descriptor.__get__") (.builtin "object.__class__")) := findObj_dataD (by obtain ⟨cd, hc, _⟩ := any_some hdct; rw [hc]; rfl) ha hn htk
  obtain ⟨hp, g, d, t, os⟩ := s
  have L0 := I.type (M := model prog w)
  have L1 := looks_findIn (M := model prog w) X hga
  have L2 := looks_findIn (M := model prog w) X hgt
  have L3 := looks_find (M := model prog w) X I hf
  have sub : Looks (model prog w) hp (isInstance (.ref x) (.type "BaseException")) true := L0.andThen (looks_subIn X hsub)
  have hx0 : (false && onTheHeap (Value.builtin "BaseException.__getattribute__")) = false := rfl
  have hx2 : (Value.builtin "BaseException.__getattribute__" == Value.builtin "object.__getattribute__") = false := by decide +kernel
  have hx1 : (onTheHeap (Value.ref D) && Value.builtin "BaseException.__getattribute__" == Value.builtin "object.__getattribute__") = false := by rw [hx2]; rfl
  unfold getAttr? getAttrBy? getAttrBy
  refine wpAny_bind (wpAny_mkText (wpAny_bind (wpAny_attempt (wpAny_holding (wpAny_bind (L0.at (wpAny_bind (L1.at ?_))))))))
  show wpAny _ _ (if (onTheHeap (Value.ref D) && Value.builtin "BaseException.__getattribute__" == Value.builtin "object.__getattribute__") = true then _ else _) _ _ _
  rw [hx1, if_neg Bool.false_ne_true]
  unfold getAttrByItsOwn hookBefore
  refine wpAny_bind ?_
  rw [if_pos (show onTheHeap (Value.ref D) = true from rfl)]
  refine L2.at ?_
  refine wpAny_bind (wpAny_attempt (wpAny_holding ?_))
  unfold callGetattribute
  rw [hx0, if_neg Bool.false_ne_true]
  unfold boundAndCalled
  rw [PySem.F.excAttr_ValueError.ga.bind (.ref x)]
  refine wpAny_bind (wpAny_pure ?_)
  show wpAny _ _ (call (.builtin "BaseException.__getattribute__") [.ref x, .str "__class__" t]) _ _ _
  refine wpAny_call (codeAny_call_builtin PySem.F.excAttr_ValueError.ga.plain PySem.F.entry_bexc_ga ?_)
  refine @check_slot (model prog w) _ _ ⟨hp, g, d, t + 1, os⟩ "BaseException.__getattribute__" "BaseException" "__getattribute__" (.ref x) [.str "__class__" t] [] _ (by decide +kernel) (by decide +kernel) sub (PySem.F.args_bexc_ga (.ref x) (.str "__class__" t)) ?_
  unfold Builtin.«object.__getattribute__»
  refine wpAny_bind (wpAny_of_eq (a := ((Value.ref x : Value), [Value.str "__class__" t])) (by first | rfl | (simp only [slotArgs]; rfl)) ?_)
  refine wpAny_bind (wpAny_pure (wpAny_bind (L0.at (wpAny_bind (L3.at ?_)))))
  show wpAny _ _ (holding [Value.builtin "object.__class__"] (call (.builtin "getset_descriptor.__get__") [.builtin "object.__class__", .ref x, .ref D]) >>= ret) _ _ _
  refine wpAny_bind (wpAny_holding (wpAny_call (class_get (s := ⟨hp, g, d, t + 1, os⟩) (ox := ox) (od := od) X I hm ?_)))
  refine wpAny_pure ?_
  show wpAny _ _ (handedOut (.ref D)) _ _ _
  rw [handedOut_of (v := .ref D) rfl]
  first
    | exact wpAny_pure (wpAny_pure h)
    | exact wpAny_pure h
    | exact wpAny_pure (wpAny_bind (wpAny_pure (wpAny_pure h)))
theorem kitx_excD (hga : findIn K (.ref D) "__getattribute__" = some (some (.builtin "BaseException.__getattribute__"))) (hgt : findIn K (.ref D) "__getattr__" = some none) (hsub : subIn K (.ref D) (.type "BaseException") = some true) (hdct : hasDictIn K D = true) (ha : findIn K (.ref D) "__class__" = some (some (.builtin "object.__class__")))
    (hn : specialIn K (.builtin "object.__class__") "__get__" = some (some (.builtin "getset_descriptor.__get__"))) (htk : takesIn K (.builtin "object.__class__") = some true) (hm : mroIn K D (.type "object") = some true) :
    KitX K (.ref x) (.ref D) (fun h => ∃ od, PySem.W.InstAt h x ox D od) where
  ty := fun _ _ _ ⟨_, I⟩ => I.type
  it := fun _ _ X _ => by
    obtain ⟨cdD, hcD, _⟩ := any_some hdct
    unfold clsIn at hcD
    split at hcD
    · rename_i c' d' cd' sl' ho
      intro A' Q' E' s' k q
      unfold isType loadHead
      exact wpAny_bind (wpAny_loadPart (k _ _ (X _ _ ho)) (wpAny_pure q))
    · cases hcD
  ne := fun h tp dd its n sl X htp => by
    obtain ⟨cdD, hcD, _⟩ := any_some hdct
    refine Bool.eq_false_iff.mpr fun q => ?_
    have e : D = tp := Value.ref.inj (beq_iff_eq.mp q)
    subst e
    unfold clsIn at hcD
    split at hcD
    · rename_i c' d' cd' sl' ho
      have z := (X _ _ ho).symm.trans htp
      cases z
    · cases hcD
  ca := fun X ⟨_, I⟩ k => kin_classD hga hgt hsub hdct ha hn htk hm X I k
end
def rIsD (K : PySem.W.Frag) (D a : Addr) (d : Option Addr) : List V → Hp → VK → Prop := fun xs H Q => ∃ (c : V) (cv : Value) (b : Bool), xs = [.ref a, c] ∧ (∀ u, RelV c u → u = cv) ∧ PySem.W.kitOne K (.ref D) cv = some b ∧ (∀ dd, d = some dd → ∃ fs, H dd = some (.xd fs)) ∧ Q (.bl b) H
theorem call_isD {X : Cx} {a D : Addr} {d : Option Addr} {oe : Obj} {pn : List (Addr × Obj)} (C : ExcC X.K D) (hz : Zc (.ref D) d oe) (hf : ∃ vs, oe.data = .fields vs) : CallR (X.suite a ((a, oe) :: pn)) (.builtin "isinstance") (rIsD X.K D a d) := by
  intro pins s σ H xs us Q I r h
  obtain ⟨c, cv, b, rfl, hcv, e, hdd, q⟩ := h
  cases r with
  | cons rx rr =>
    cases rr with
    | cons rt rr =>
      cases rr
      cases rx
      have ec := hcv _ rt
      subst ec
      obtain ⟨hget, _⟩ := I.pin (a, oe) (List.mem_append.mpr (.inl List.mem_cons_self))
      obtain ⟨vs, hv⟩ := hf
      have J : ∃ od, PySem.W.InstAt s.heap a oe D od := by
        obtain ⟨oc, od, oda, osl⟩ := oe
        obtain ⟨h1, h2⟩ := hz
        dsimp only at h1 h2 hv
        subst h1 h2 hv
        cases od with
        | none => exact ⟨none, hget, rfl, rfl, trivial⟩
        | some dd =>
          obtain ⟨fs, hfs⟩ := hdd dd rfl
          have hx : ObjOk X.prog X.w H s.heap dd (.xd fs) := I.hok dd _ hfs
          obtain ⟨mA, hns, _⟩ := hx
          obtain ⟨o, ho, _⟩ := lookIn_ns hns
          exact ⟨some o, hget, rfl, rfl, ho⟩
      exact PySem.W.kia_one (kitx_excD C.hg C.hk C.hs C.hd C.ha C.hn C.ht C.hm) I.kIn J e (fun z => nomatch z) fun tk => ⟨.bl b, H, I.kept (t' := tk) fun _ _ z => z, rfl, q⟩
end RT

set_option maxRecDepth 100000
set_option maxHeartbeats 4000000

namespace RT
open PySem PySem.Spec PyProof.Rows L2
def ExcU (K : PySem.W.Frag) (x : Str) : Prop := ∃ D, PySem.W.nsIn K mainGlobals x = some (some (.ref D)) ∧ ExcC K D ∧ ∀ f, fldOf x = some f → PySem.W.findIn K (.ref D) f = some none
def exuB (K : PySem.W.Frag) (x : Str) : Bool := match PySem.W.nsIn K mainGlobals x with
  | some (some (.ref C)) => ((PySem.W.findIn K (.ref C) "__getattribute__" == some (some (.builtin "BaseException.__getattribute__"))) && ((PySem.W.findIn K (.ref C) "__getattr__" == some none) && ((PySem.W.subIn K (.ref C) (.type "BaseException") == some true) && (PySem.W.hasDictIn K C && ((PySem.W.findIn K (.ref C) "__class__" == some (some (.builtin "object.__class__"))) &&
      ((PySem.W.specialIn K (.builtin "object.__class__") "__get__" == some (some (.builtin "getset_descriptor.__get__"))) && ((PySem.W.takesIn K (.builtin "object.__class__") == some true) && ((PySem.W.mroIn K C (.type "object") == some true) && (match fldOf x with
        | some f => PySem.W.findIn K (.ref C) f == some none
        | none => true)))))))))
  | _ => false
theorem exu_of {K : PySem.W.Frag} {x : Str} (h : exuB K x = true) : ExcU K x := by
  unfold exuB at h
  split at h
  · rename_i C e
    simp only [Bool.and_eq_true, beq_iff_eq] at h
    obtain ⟨h1, h2, h3, h4, h5, h6, h7, h8, h9⟩ := h
    refine ⟨C, e, ⟨h1, h2, h3, h4, h5, h6, h7, h8⟩, fun f hf => ?_⟩
    rw [hf] at h9
    exact beq_iff_eq.mp h9
  · cases h
def IsX (os : OS) (i : Nat) (x : Str) (a bd : Addr) (m : M) : Prop := ∃ k d, m.sl[i]? = some (some (.c k)) ∧ os.lookup k = some (.exc a ((fldOf x).map (bd, ·)) d)
def dIsX (os : OS) (i : Nat) (x : Str) (a bd : Addr) (b : Bool) : DE := fun m Q => IsX os i x a bd m ∧ Q (.d (.bl b)) m
def dXf (os : OS) (i : Nat) (x : Str) (a bd : Addr) : DE := fun m Q => ∃ k d f, m.sl[i]? = some (some (.c k)) ∧ os.lookup k = some (.exc a (some (bd, f)) d) ∧ fldOf x = some f ∧ Q (.d d) m
section
variable {X : Cx} {os : OS} {i : Nat} {x n y : Str} {a bd : Addr} {oe : Obj} {pn : List (Addr × Obj)} {v : Value} {b : Bool} {p p1 p2 pos : Pos}
theorem xslot {K : PySem.W.Frag} {W F : Hp} {A : List Addr} {m : M} {σ : L2.St} {H : Hp} {k : Nat} {dd : Option (Addr × Str)} {d : Dt} (G : @Good (gho K os) K W F A m σ H) (hs : m.sl[i]? = some (some (.c k))) (ho : os.lookup k = some (.exc a dd d)) :
    σ[i]? = some (some (.ref a)) ∧ ∀ b f, dd = some (b, f) → ∃ u, H b = some (.xd [(f, u)]) ∧ Rep K F d u := by
  obtain ⟨h1, h2⟩ := (Good.ghp G).ex k a dd d ho
  obtain ⟨_, hid, _, _, sl, _⟩ := G
  obtain ⟨u, hu, a', ha', rfl⟩ := sl i _ hs
  rw [h1] at ha'
  cases ha'
  refine ⟨hu, fun b f z => ?_⟩
  obtain ⟨u, h3, h4⟩ := h2 b f z
  exact ⟨u, hid _ _ h3, h4⟩
theorem je_isX (E : ExcU X.K x) (hv : PySem.W.nsIn X.K mainGlobals x = some (some v)) (hz : Zc v ((fldOf x).map fun _ => bd) oe) (hf : ∃ vs, oe.data = .fields vs) (hi : IsiG X.K X.mg x y b) (hN : X.N[i]? = some n) (hvs : Vis X.env.scope n) (hg : Gl X "isinstance") (hm : X.mg "isinstance" = none) (hgy : Gl X y)
    (n1 : (n == ("__debug__" : Str)) = false := by decide) (n2 : (n == ("__classdict__" : Str)) = false := by decide) (n3 : (y == ("__debug__" : Str)) = false := by decide) :
    @JE (gho X.K os) (X.suite a ((a, oe) :: pn)) (.Call (.Name "isinstance" p) [.Name n p1, .Name y p2] [] pos) (dIsX os i x a bd b) := by
  obtain ⟨D, hD, C, _⟩ := E
  rw [hD] at hv
  cases hv
  obtain ⟨cy, hmy, hk⟩ := hi
  refine (pe_callB (X := X.suite a ((a, oe) :: pn)) (call_isD C hz hf) hg hm PyProof.Rows.boot_isinstance (pa_cons (pe_var hN hvs n1 n2) (pa_cons (pe_glob (v := .ref cy) hgy hmy rfl n3) pa_nil))).imp fun σ H Q hh => ?_
  letI : Ghost := gho X.K os
  obtain ⟨W, F, A, m, Qd, G, ⟨⟨k, d, hs, ho⟩, q⟩, c⟩ := hh
  obtain ⟨h1, h2⟩ := xslot G hs ho
  refine ⟨_, h1, .ref cy, .ref cy, b, rfl, fun u hu => hu, hk _ hD, fun dd hdd => ?_, c F A _ m H (Same.refl _) (pre_refl _) G q _ rv_bl⟩
  cases hfx : fldOf x with
  | none =>
    rw [hfx] at hdd
    cases hdd
  | some f =>
    rw [hfx] at hdd h2
    have : bd = dd := Option.some.inj hdd
    subst this
    obtain ⟨u, hu, _⟩ := h2 bd f rfl
    exact ⟨_, hu⟩
theorem je_xf {f : Str} (E : ExcU X.K x) (hv : PySem.W.nsIn X.K mainGlobals x = some (some v)) (hz : Zc v ((fldOf x).map fun _ => bd) oe) (hf : ∃ vs, oe.data = .fields vs) (hfx : fldOf x = some f) (hN : X.N[i]? = some n) (hvs : Vis X.env.scope n)
    (n1 : (n == ("__debug__" : Str)) = false := by decide) (n2 : (n == ("__classdict__" : Str)) = false := by decide) (hb : attributeBase (.Name n p) f X.env (eval (.Name n p) X.env) = eval (.Name n p) X.env := by rfl) :
    @JE (gho X.K os) (X.suite a ((a, oe) :: pn)) (.Attribute (.Name n p) f pos) (dXf os i x a bd) := by
  obtain ⟨D, hD, C, hno⟩ := E
  rw [hD] at hv
  cases hv
  refine (pe_xf (X := X) (a := a) (pn := pn) ⟨C.hg, C.hk, C.hs, C.hd⟩ (hno f hfx) hz hf (pe_var (X := X.suite a ((a, oe) :: pn)) hN hvs n1 n2) hb).imp fun σ H Q hh => ?_
  letI : Ghost := gho X.K os
  obtain ⟨W, F, A, m, Qd, G, ⟨k, d, f', hs, ho, hf', q⟩, c⟩ := hh
  rw [hfx] at hf'
  cases hf'
  obtain ⟨h1, h2⟩ := xslot G hs ho
  obtain ⟨u, hu, ru⟩ := h2 bd f rfl
  refine ⟨_, h1, rfl, rfl, bd, [(f, u)], u, by rw [hfx]; rfl, hu, by simp [List.lookup], c F A _ m H (Same.refl _) (pre_refl _) G q _ ru⟩
theorem je_never [Ghost] {X : Cx} {e : Expr} : JE X e (fun _ _ => False) := ⟨fun _ _ _ _ _ _ ⟨_, _, _, _, _, _, h, _⟩ => h.elim⟩
theorem SlotOk.su {X : Cx} {i : Nat} {x : Str} (s : SlotOk X i x) (a : Addr) (pn : List (Addr × Obj)) : SlotOk (X.suite a pn) i x := ⟨s.hN, s.hl, s.nd, s.nc, s.hf⟩
theorem SlotOk.tr {X : Cx} {i : Nat} {x : Str} (s : SlotOk X i x) (pn : List (Addr × Obj)) (xe : Value → Shared → Prop) : SlotOk (X.tr pn xe) i x := ⟨s.hN, s.hl, s.nd, s.nc, s.hf⟩
end
end RT

set_option maxRecDepth 100000
set_option maxHeartbeats 4000000

namespace RT
open PySem PySem.Spec PyProof.Rows L2 NdefX
abbrev MtW : Type := Option (Str × Str × Arguments × FuncBody × Scope)
def clA (K : PySem.W.Frag) (x : Str) : Addr := He.ga K x
def inA (K : PySem.W.Frag) (x : Str) : Addr := He.ma K (He.ga K x) "__init__"
def mtW (K : PySem.W.Frag) (x : Str) : MtW := match K.lookup (inA K x) with
  | some ⟨_, _, .func fd, _⟩ => some (fd.name, fd.qualname, fd.params, fd.body, fd.scope)
  | _ => none
structure ErD where
  x : Str
  f : Str
  qual : Str
  params : Arguments
  body : List Stmt
  scope : Scope
def ErD.val (d : ErD) : MtW := some ("__init__", d.qual, d.params, .stmts d.body, d.scope)
def celB (K : PySem.W.Frag) (cc C : Addr) : Bool := match K.lookup cc with
  | some ⟨_, _, .cell (some (.ref D)), _⟩ => decide (D = C)
  | _ => false
def filB (K : PySem.W.Frag) (c : Addr) (file : Str) : Bool := match K.lookup c with
  | some ⟨_, _, .fields vs, _⟩ => (match (vs[2]? : Option Value) with
    | some (Value.str fl _) => file == fl
    | _ => false)
  | _ => false
def clsB (K : PySem.W.Frag) (C : Addr) : Bool := match K.lookup C with
  | some ⟨.type t, _, .cls cd, sl⟩ => decide (t = "type") && (match cd.mro, sl.toList with
    | .ref C' :: bm, [_, _, _, _, some (.builtin n), _] => decide (C' = C) && (decide (n = "ValueError.__new__") && (!cd.hasDel && (cd.hasDict && PySem.HandSPX.refsVE bm)))
    | _, _ => false)
  | _ => false
def iniB (K : PySem.W.Frag) (file : Str) (C fI : Addr) (q : Str) : Bool := match K.lookup fI with
  | some ⟨_, _, .func fd, _⟩ => (decide (fd.globals = mainGlobals) && (decide (fd.builtins = builtinsNs) && ((match fd.defaults with | .none => true | _ => false) && (match fd.kwdefaults with | .none => true | _ => false)))) && (match fd.code, fd.closure with
    | .ref c, [(y, cc)] => decide (y = "__class__") && (PySem.W.codeIn K (.ref c) q && (celB K cc C && filB K c file))
    | _, _ => false)
  | _ => false
def einB (K : PySem.W.Frag) (file : Str) (d : ErD) : Bool :=
  He.eqO (PySem.W.nsIn K mainGlobals d.x) (some (some (.ref (clA K d.x)))) && (He.eqO (PySem.W.findIn K (.ref (clA K d.x)) "__init__") (some (some (.ref (inA K d.x)))) && (decide (PySem.W.typeIn K (.ref (inA K d.x)) = some (.type "function")) && (clsB K (clA K d.x) &&
    (iniB K file (clA K d.x) (inA K d.x) d.qual && (He.eqO (PySem.W.findIn K (.ref (clA K d.x)) "__setattr__") (some (some (.builtin "object.__setattr__"))) && (decide (PySem.W.subIn K (.ref (clA K d.x)) (.type "BaseException") = some true) && (decide (PySem.W.typeIn K (.ref (clA K d.x)) = some (.type "type")) && (PySem.W.keepIn K (.ref (clA K d.x)) &&
      (He.eqO (PySem.W.ks_superIn K (clA K d.x) (clA K d.x) "__init__") (some (some (.builtin "ValueError.__init__"))) && (decide (PySem.W.mroIn K (clA K d.x) (.ref (clA K d.x)) = some true) && (decide (PySem.W.subIn K (.ref (clA K d.x)) (.type "ValueError") = some true) && (He.eqO (PySem.W.nsIn K cStatics "thirdparty.any") (some none) && He.eqO (PySem.W.findIn K (.ref (clA K d.x)) d.f) (some none)))))))))))))
theorem clsB_ok {K : PySem.W.Frag} {C : Addr} (h : clsB K C = true) : ∃ nm q N bs bm sn sub ab col dd k0 k1 k2 k3 k5, K.lookup C = some (excClassObj nm q C N bs bm true sn sub ab col dd k0 k1 k2 k3 k5 "ValueError.__new__") ∧ PySem.HandSPX.refsVE bm = true := by
  unfold clsB at h
  split at h
  · rename_i t dd cd sl ho
    obtain ⟨h1, h2⟩ := band h
    split at h2
    · rename_i C' bm k0 k1 k2 k3 n k5 hm hs
      obtain ⟨a1, h2⟩ := band h2
      obtain ⟨a2, h2⟩ := band h2
      obtain ⟨a3, h2⟩ := band h2
      obtain ⟨a4, a5⟩ := band h2
      obtain ⟨nm, bs, mro, ns, qn, hd, sn, sub, ab, col, del⟩ := cd
      have b1 := of_decide_eq_true h1
      have b2 := of_decide_eq_true a1
      have b3 := of_decide_eq_true a2
      dsimp only at hm a3 a4
      have b4 : del = false := by simpa using a3
      subst b1 b2 b3 hm b4 a4
      have hsl : sl = #[k0, k1, k2, k3, some (.builtin "ValueError.__new__"), k5] := by
        obtain ⟨l⟩ := sl
        simp only at hs
        rw [hs]
      subst hsl
      exact ⟨nm, qn, ns, bs, bm, sn, sub, ab, col, dd, k0, k1, k2, k3, k5, ho, a5⟩
    · cases h2
  · cases h
structure PrgOk (P : Program) (file : Str) : Prop where
  file : P.main.file = file
  top : (P.main.scope.names.lookup ("super" : Str)).isSome = false
theorem celB_ok {K : PySem.W.Frag} {cc C : Addr} (h : celB K cc C = true) : ∃ c d s, K.lookup cc = some ⟨c, d, .cell (some (.ref C)), s⟩ := by
  unfold celB at h
  split at h
  · rename_i c d D s e
    have := of_decide_eq_true h
    subst this
    exact ⟨c, d, s, e⟩
  · cases h
theorem filB_ok {K : PySem.W.Frag} {c : Addr} {file : Str} (h : filB K c file = true) : ∃ (c' : Value) (d : Option Addr) (vs : Array Value) (s : Array (Option Value)) (fl : Str) (t : Tok), K.lookup c = some ⟨c', d, .fields vs, s⟩ ∧ vs[2]? = some (.str fl t) ∧ (file == fl) = true := by
  unfold filB at h
  split at h
  · rename_i c' d vs s e
    split at h
    · rename_i fl t e2
      exact ⟨c', d, vs, s, fl, t, e, e2, h⟩
    · cases h
  · cases h
theorem eini_of {P : Program} {K : PySem.W.Frag} {d : ErD} {file arg : Str} {e : Expr} (hp : PrgOk P file) (h : einB K file d = true) (hw : mtW K d.x = d.val) (hd : (d.params.posonlyargs ++ d.params.args).head?.map (·.arg) = some ("self" : Str)) :
    ∃ (cc c : Addr) (oc : Value) (od : Option Addr) (doc pm : Value) (an : Option Addr) (ct : Value) (osl : Array (Option Value)), EIni P K (clA K d.x) (inA K d.x) cc ⟨"__init__", d.qual, d.params, d.body, d.scope, [("__class__", cc)], c⟩ arg d.f e ∧
      K.lookup (inA K d.x) = some ⟨oc, od, .func (PySem.W.fnX "__init__" d.qual d.params d.body d.scope [("__class__", cc)] .none .none doc pm an (.ref c) ct), osl⟩ ∧ PySem.W.nsIn K mainGlobals d.x = some (some (.ref (clA K d.x))) ∧
      PySem.W.findIn K (.ref (clA K d.x)) "__init__" = some (some (.ref (inA K d.x))) ∧ PySem.W.typeIn K (.ref (inA K d.x)) = some (.type "function") := by
  unfold einB at h
  obtain ⟨h1, h⟩ := band h
  obtain ⟨h2, h⟩ := band h
  obtain ⟨h3, h⟩ := band h
  obtain ⟨h4, h⟩ := band h
  obtain ⟨h5, h⟩ := band h
  obtain ⟨h6, h⟩ := band h
  obtain ⟨h7, h⟩ := band h
  obtain ⟨h8, h⟩ := band h
  obtain ⟨h9, h⟩ := band h
  obtain ⟨h10, h⟩ := band h
  obtain ⟨h11, h⟩ := band h
  obtain ⟨h12, h⟩ := band h
  obtain ⟨h13, h14⟩ := band h
  unfold iniB at h5
  unfold mtW at hw
  split at h5
  · rename_i oc od fd osl lk
    rw [lk] at hw
    obtain ⟨a1, a2⟩ := band h5
    obtain ⟨a3, a4⟩ := band a1
    obtain ⟨a5, a6⟩ := band a4
    obtain ⟨a7, a8⟩ := band a6
    obtain ⟨n1, n2, n3, n4, n5, n6, n7, n8, n9, n10, n11, n12, n13, n14, n15⟩ := fd
    dsimp only at a2 a3 a5 a7 a8 hw
    split at a2
    · rename_i c y cc
      obtain ⟨b1, b2⟩ := band a2
      obtain ⟨b3, b4⟩ := band b2
      obtain ⟨b5, b6⟩ := band b4
      have c1 := of_decide_eq_true a3
      have c2 := of_decide_eq_true a5
      have c3 := of_decide_eq_true b1
      unfold ErD.val at hw
      simp only [Option.some.injEq, Prod.mk.injEq] at hw
      obtain ⟨w1, w2, w3, w4, w5⟩ := hw
      have c4 : n8 = .none := by
        cases n8 with
        | none => rfl
        | _ => cases a7
      have c5 : n9 = .none := by
        cases n9 with
        | none => rfl
        | _ => cases a8
      subst c1 c2 c3 w1 w2 w3 w4 w5 c4 c5
      obtain ⟨g1, g2, g3, g4⟩ := celB_ok b5
      refine ⟨cc, c, oc, od, n10, n11, n12, n14, osl, ⟨⟨clsB_ok h4, He.eqO_ok h6, of_decide_eq_true h7, of_decide_eq_true h8, h9⟩, ⟨oc, od, .none, .none, n10, n11, n12, n14, osl, lk⟩, b3, rfl, ⟨g1, g2, g3, g4⟩, ?_, of_decide_eq_true h11, of_decide_eq_true h12, He.eqO_ok h13, He.eqO_ok h14, ?_, hd, hp.top⟩, lk, He.eqO_ok h1, He.eqO_ok h2, of_decide_eq_true h3⟩
      · have e := He.eqO_ok h10
        cases q : PySem.W.clsIn K (clA K d.x) with
        | none =>
          unfold PySem.W.ks_superIn at e
          rw [q] at e
          cases e
        | some cd => exact ⟨cd, rfl, e⟩
      · rw [hp.file]
        exact filB_ok b6
    · cases a2
  · cases h5
theorem jlen {a b : Str} {m n : Nat} (h1 : a.length ≤ m) (h2 : b.length ≤ n) : (a ++ b).length ≤ m + n := by
  rw [Str.length_append]
  omega
theorem ilen {i : Int} (h : i.natAbs.log2 < 1920) : (Str.ofString (toString i)).length ≤ 1921 := by
  rw [PySem.ofString_length]
  exact int_text_length_le (by decide) h
theorem ha2 {arg : Str} {s : Str} {j : Nat} {p1 p2 p3 p4 : Pos} (hd1 : (arg == ("__debug__" : Str)) = false) (hd2 : (arg == ("__classdict__" : Str)) = false) (hs : s.length ≤ 100) :
    ∀ X : Cx, X.N[1]? = some arg → Vis X.env.scope arg → ∃ ta : TA, PA X [.JoinedStr [.Constant (.str s) j p1, .FormattedValue (.Name arg p2) (-1) none p3] p4] ta ∧ ∀ (σ : L2.St) (H : Hp) (i : Int) (Q : List V → Hp → Prop), σ[1]? = some (some (.int i)) → i.natAbs.log2 < 1920 → (∀ v, Q [v] H) → ta σ H Q := by
  intro X hN hv
  refine ⟨_, pa_cons (pe_joined (.cons pe_str (.cons (pe_fmt (pe_var hN hv hd1 hd2)) .nil))) pa_nil (by rfl), fun σ H i Q h0 hi q => ?_⟩
  have l1 : (Str.empty ++ s).length ≤ 0 + 100 := jlen (Nat.le_refl _) hs
  refine ⟨s, rfl, ?_, ⟨_, h0, .inr ⟨i, rfl, hi, ⟨_, rfl, ?_, ?_⟩⟩⟩⟩
  · rw [sizeLine_eq]
    omega
  · have := jlen l1 (ilen hi)
    rw [sizeLine_eq]
    exact Nat.le_trans this (by decide)
  · exact q _
theorem errI_of {P : Program} {w : World} {K : PySem.W.Frag} {mg : Str → Option Value} {base : Heap} {d : ErD} {file arg : Str} {vs : List Expr} {pj p0 p1 apos cpos epos sp fp np ap : Pos} (KX : K.In base) (GX : base.Ns mainGlobals mg) (hp : PrgOk P file) (h : einB K file d = true) (hw : mtW K d.x = d.val) (hgl : mg "super" = none) (hf : fldOf d.x = some d.f)
    (hd : (d.params.posonlyargs ++ d.params.args).head?.map (·.arg) = some ("self" : Str)) (S : NScope [("self" : Str), arg, "__class__"] ["self", arg] ["__class__"] d.scope) (hbody : d.body = eiBody arg d.f (.JoinedStr vs pj) p0 p1 apos cpos epos sp fp np ap) (hsu : d.scope.names.lookup ("super" : Str) = some .globalImplicit)
    (hd1 : (arg == ("__debug__" : Str)) = false) (hd2 : (arg == ("__classdict__" : Str)) = false)
    (hev : ∀ env : Env, ∃ pl, eval (.Call (.Attribute (.Call (.Name "super" p0) [] [] p1) "__init__" apos) [.JoinedStr vs pj] [] cpos) env = (do
      let ov ← attributeBase (.Call (.Name "super" p0) [] [] p1) "__init__" env (eval (.Call (.Name "super" p0) [] [] p1) env)
      standAt apos.atName
      let (f, first) ← holding [ov] (getMethod ov "__init__" pl)
      callWith cpos f first (backTo cpos (starEach [.JoinedStr vs pj] env)) []))
    (hb : ∀ (cl : List (Str × Addr)) (doc pm : Value) (an : Option Addr) (cdv ct : Value) (us : List Value), us.length = 2 → bindArgs (PySem.W.fnX "__init__" d.qual d.params d.body d.scope cl .none .none doc pm an cdv ct) ⟨us, []⟩ = pure ([("self" : Str), arg].zip us))
    (ha : ∀ X : Cx, X.N[1]? = some arg → Vis X.env.scope arg → ∃ ta : TA, PA X [.JoinedStr vs pj] ta ∧ ∀ (σ : L2.St) (H : Hp) (i : Int) (Q : List V → Hp → Prop), σ[1]? = some (some (.int i)) → i.natAbs.log2 < 1920 → (∀ v, Q [v] H) → ta σ H Q) : ErrI P w K mg base d.x 1 := by
  obtain ⟨cc, c, oc, od, doc, pm, an, ct, osl, T, lk, n1, n2, n3⟩ := eini_of (arg := arg) (e := .JoinedStr vs pj) hp h hw hd
  refine ⟨clA K d.x, inA K d.x, _, arg, d.f, T.oex, n2, n3, fnn_einit (k := 0) (N := [("self" : Str), arg, "__class__"]) T S hbody hsu hgl rfl rfl hd1 hd2 hev (fun env => rfl) ?_ ?_ ?_ ha ⟨oc, od, osl, lk⟩, .all fun us hl => hb _ _ _ _ _ _ us hl, PySem.W.mg_of KX GX n1, n1, hf⟩
  · exact fun env => rfl
  · exact fun env => rfl
  · intro env hk
    unfold interactive
    rw [hk]
    rfl
end RT

set_option maxRecDepth 100000
set_option maxHeartbeats 4000000

namespace RT
open PySem PySem.Spec PyProof.Rows L2
def spUp (sp : FSpec) : FSpecO := fun args st os Q _ => sp args st fun r st' => Q r st' os
theorem fn_up {P : Program} {w : World} {K : PySem.W.Frag} {mg : Str → Option Value} {base : Heap} {k : Nat} {f : Addr} {fd : FuncData} {ps : List Str} {sp : FSpec} (F : Fnn P w K mg base CX0 k f fd ps (liftSp K sp)) : Fnn P w K mg base (L2.CX P w) k f fd ps (liftSpO K (spUp sp)) := by
  have up : ∀ vs H Q (E : XK), liftSpO K (spUp sp) vs H Q E → liftSp K sp vs H Q (fun _ _ _ => False) := fun vs H Q E h => by
    obtain ⟨W, F1, A, st, os, W', args, Qd, Ex, G, r, q, c, cx⟩ := h
    refine ⟨W', F1, A, st, args, _, @Good.regh (gho K os) Ghost.tt _ _ _ _ _ _ _ G.G True.intro, r, q, fun F' A' st' H' r u s' p' G' r' q' => ?_⟩
    exact c F' A' st' os H' W' r u s' p' (G.next p' (@Good.regh Ghost.tt (gho K os) _ _ _ _ _ _ _ G' (OsOk.mono (Good.ghp G.G) (SameO.refl _) s' p'))) r' q'
  refine ⟨fun vs H Q E h => F.len vs H Q _ (up vs H Q E h), fun A outer s H args us vs Q E hr e0 hb r h => codeAny_mono (F.run A outer s H args us vs Q _ hr e0 hb r (up vs H Q E h)) fun r s' z => ?_⟩
  cases r with
  | ok v => cases v <;> exact z
  | error e => exact False.elim z
theorem FnG.up {P : Program} {w : World} {K : PySem.W.Frag} {mg : Str → Option Value} {base : Heap} {x : Str} {k : Nat} {sp : FSpec} (F : FnG P w K mg base x k sp []) : FnO P w K mg base x k (spUp sp) := by
  obtain ⟨f, fd, ps, ds, dvs, F, hm, hk, hb, hv, hr⟩ := F
  have e1 : dvs = [] := by
    have := hr (fun _ => none) []
    simpa only [RepVs] using this
  subst e1
  cases hv
  exact ⟨f, fd, ps, fn_up F, hm, hk, hb⟩
theorem ExmG.at {K : PySem.W.Frag} {mg : Str → Option Value} {x y : Str} {cy : Value} (E : ExmG K mg x y) (h : mg y = some cy) : ∀ v, PySem.W.nsIn K mainGlobals x = some (some v) → PySem.W.exmOne K v cy = some true := by
  obtain ⟨c2, h2, k⟩ := E
  rw [h] at h2
  cases h2
  exact k

section
variable {X : Cx} [Gh : Ghost]
def rNotInTD (K : PySem.W.Frag) : R2 := fun x y H Q => ∃ d ds, Dp K H x d ∧ Dp K H y (.tuple ds) ∧ SeqAt.shaped d = true ∧ SeqAt.shaped (.tuple ds) = true ∧ Q (.bl (!ds.any fun z => PyData.eqv z d)) H
theorem op_notInTD (hu : X.A.units + 65 < cLine) : OpR X (compareOp .NotIn) (rNotInTD X.K) := by
  intro pins s σ H x y v u Q I rx ry h
  obtain ⟨d, ds, hd, he, sd, se, q⟩ := h
  obtain ⟨as, r1⟩ := Dp.reads I d x v hd rx
  obtain ⟨bs, r2⟩ := Dp.reads I (.tuple ds) y u he ry
  exact SeqAt.notIn_tuple_reads r2 r1 (SeqAt.canLay_of_shaped se) (SeqAt.canLay_of_shaped sd) (room_in_shaped sd hu) ⟨.bl _, H, I, rfl, q⟩
def rNotInT : DR2 := fun x y P => match y with
  | .tup ys => shD x ∧ shD (.tup ys) ∧ P (.bl (!ys.any fun z => eqD z x))
  | _ => False
theorem o_notInT {k : Nat} (hr : GRoom k X.A) : OpD X (compareOp .NotIn) rNotInT := ⟨_, op_notInTD (by have := hr.room.un; omega), fun W F A m σ H x y u v P Q G rx ry q c => by
  unfold rNotInT at q
  split at q
  · rename_i ys
    refine ⟨_, toPys ys, dp_of (rep_up G.ext rx), ?_, q.1, ?_, ?_⟩
    · have := dp_of (rep_up G.ext ry)
      unfold toPy at this
      exact this
    · have := q.2.1
      unfold shD toPy at this
      exact this
    · rw [any_py]
      exact c F H _ _ (Same.refl _) G rep_bl q.2.2
  · exact q.elim⟩
end

theorem el_at {K : PySem.W.Frag} {el : List ErD} (h : el.map (fun d => mtW K d.x) = el.map ErD.val) (i : Nat) {d : ErD} (e : el[i]? = some d := by rfl) : mtW K d.x = d.val := by
  have e2 : (el.map fun d => mtW K d.x)[i]? = (el.map ErD.val)[i]? := by rw [h]
  rw [List.getElem?_map, List.getElem?_map, e] at e2
  exact Option.some.inj e2
end RT

set_option maxRecDepth 100000
set_option maxHeartbeats 4000000

namespace RT
open PySem PySem.Spec PyProof.Rows L2

def putV (f : Str) (v : Vl) : List (Str × Vl) → List (Str × Vl)
  | [] => [(f, v)]
  | (g, x) :: r => if g = f then (g, v) :: r else (g, x) :: putV f v r
def setO : OS → Nat → OCell → OS
  | [], k, o => [(k, o)]
  | (j, x) :: r, k, o => if j = k then (k, o) :: r else (j, x) :: setO r k o
theorem lookup_putV (f g : Str) (v : Vl) : ∀ fs : List (Str × Vl), (putV f v fs).lookup g = if g = f then some v else fs.lookup g
  | [] => by
    by_cases h : g = f
    · subst h
      simp [putV, List.lookup]
    · simp [putV, List.lookup, h, beq_eq_false_iff_ne.mpr h]
  | (k, x) :: r => by
    have ih := lookup_putV f g v r
    unfold putV
    by_cases hk : k = f
    · subst hk
      rw [if_pos rfl]
      by_cases h : g = k
      · subst h
        simp [List.lookup]
      · simp [List.lookup, h, beq_eq_false_iff_ne.mpr h]
    · rw [if_neg hk]
      by_cases h : g = k
      · subst h
        simp [List.lookup, hk]
      · simp [List.lookup, beq_eq_false_iff_ne.mpr h, ih]
theorem lookup_setO (k j : Nat) (o : OCell) : ∀ os : OS, (setO os k o).lookup j = if j = k then some o else os.lookup j
  | [] => by
    by_cases h : j = k
    · subst h
      simp [setO, List.lookup]
    · simp [setO, List.lookup, h, beq_eq_false_iff_ne.mpr h]
  | (i, x) :: r => by
    have ih := lookup_setO k j o r
    unfold setO
    by_cases hk : i = k
    · subst hk
      rw [if_pos rfl]
      by_cases h : j = i
      · subst h
        simp [List.lookup]
      · simp [List.lookup, h, beq_eq_false_iff_ne.mpr h]
    · rw [if_neg hk]
      by_cases h : j = i
      · subst h
        simp [List.lookup, hk]
      · simp [List.lookup, beq_eq_false_iff_ne.mpr h, ih]
theorem keys_put (f : Str) (v : Vl) (u : V) : ∀ {fs : List (Str × Vl)} {us : List (Str × V)}, us.map (·.1) = fs.map (·.1) → (putF f u us).map (·.1) = (putV f v fs).map (·.1)
  | [], [], _ => rfl
  | [], _ :: _, h => by cases h
  | _ :: _, [], h => by cases h
  | (g, x) :: fs, (g', y) :: us, h => by
    have h1 : g' = g ∧ us.map (·.1) = fs.map (·.1) := by simpa using h
    obtain ⟨rfl, h2⟩ := h1
    have ih := keys_put f v u h2
    unfold putV putF
    by_cases c : g' = f
    · rw [if_pos c, if_pos c]
      simp [h2]
    · rw [if_neg c, if_neg c]
      simp [ih]
theorem Flds.put {K : PySem.W.Frag} {F : Hp} {A : List Addr} {fs : List (Str × Vl)} {us : List (Str × V)} {f : Str} {v : Vl} {u : V} (h : Flds K F A fs us) (r : RepV K F A v u) : Flds K F A (putV f v fs) (putF f u us) := by
  refine ⟨keys_put f v u h.keys, fun g w e => ?_⟩
  rw [lookup_putV] at e
  rw [lookup_putF]
  by_cases c : g = f
  · rw [if_pos c] at e ⊢
    cases e
    exact ⟨u, rfl, r⟩
  · rw [if_neg c] at e ⊢
    exact h.vals g w e
theorem Flds.len {K : PySem.W.Frag} {F : Hp} {A : List Addr} {fs : List (Str × Vl)} {us : List (Str × V)} (h : Flds K F A fs us) : us.length = fs.length := by
  have := congrArg List.length h.keys
  simpa using this
theorem key_none {α : Type} {f : Str} : ∀ {l : List (Str × α)}, l.lookup f = none ↔ f ∉ l.map (·.1)
  | [] => by simp
  | (g, x) :: r => by
    have ih := key_none (f := f) (l := r)
    by_cases c : f = g
    · subst c
      simp [List.lookup]
    · simp [List.lookup, beq_eq_false_iff_ne.mpr c, ih, c]
theorem Flds.none {K : PySem.W.Frag} {F : Hp} {A : List Addr} {fs : List (Str × Vl)} {us : List (Str × V)} (h : Flds K F A fs us) (f : Str) : us.lookup f = none ↔ fs.lookup f = none := by
  rw [key_none, key_none, h.keys]

def ClsO (K : PySem.W.Frag) (c : Str) : Prop := ∃ C, PySem.W.nsIn K mainGlobals c = some (some (.ref C)) ∧ Cls K C
def NoaO (K : PySem.W.Frag) (c f : Str) : Prop := ∀ C, PySem.W.nsIn K mainGlobals c = some (some (.ref C)) → NoAttr K C f
theorem GoodO.put {K : PySem.W.Frag} {W F : Hp} {A : List Addr} {m : M} {os : OS} {σ : L2.St} {H W' : Hp} {k : Nat} {c f : Str} {fs : List (Str × Vl)} {us : List (Str × V)} {a C dx : Addr} {v : Vl} {u : V} (G : GoodO K W F A m os σ H W') (hk : os.lookup k = some (.obj c fs)) (ha : A[k]? = some a)
    (hW : W' a = some (.ins C dx us)) (hC : PySem.W.nsIn K mainGlobals c = some (some (.ref C))) (hf : Flds K F A fs us) (r : RepV K F A v u) :
    GoodO K W F A m (setO os k (.obj c (putV f v fs))) σ (upd H a (.ins C dx (putF f u us))) (upd W' a (.ins C dx (putF f u us))) := by
  have wa : W a = none := G.out k c fs a hk ha
  have ok := Good.ghp G.G
  obtain ⟨sW, out, g⟩ := G
  obtain ⟨ext, hid, dj, slen, sl, len, st, nd, tb, _⟩ := g
  have fa : F a = none := dj a _ hW
  refine ⟨fun b o e => ?_, fun k' c' fs' a' e h => ?_, @Good.mk (gho K _) _ _ _ _ _ _ _ ?_ ?_ ?_ slen sl len ?_ nd ?_ ?_⟩
  · rw [upd_ne (fun z => by rw [z, wa] at e; cases e)]
    exact sW b o e
  · rw [lookup_setO] at e
    by_cases hkk : k' = k
    · subst hkk
      rw [ha] at h
      cases h
      exact wa
    · rw [if_neg hkk] at e
      exact out k' c' fs' a' e h
  · intro b o e
    rw [upd_ne (fun z => by rw [z, fa] at e; cases e)]
    exact ext b o e
  · intro b o e
    by_cases hb : b = a
    · rw [hb, upd_same] at e
      cases e
      rw [hb, upd_same]
    · rw [upd_ne hb] at e ⊢
      exact hid b o e
  · intro b o e
    by_cases hb : b = a
    · rw [hb]
      exact fa
    · rw [upd_ne hb] at e
      exact dj b o e
  · intro j xs e
    obtain ⟨b, vs, h1, h2, h3, h4, h5⟩ := st j xs e
    have ne : b ≠ a := fun z => by rw [z, hW] at h5; cases h5
    exact ⟨b, vs, h1, by rw [upd_ne ne]; exact h2, h3, h4, by rw [upd_ne ne]; exact h5⟩
  · intro q hq
    obtain ⟨⟨ps, t1, okk⟩, t2, t3⟩ := tb q hq
    have ne : q.2 ≠ a := fun z => by rw [z, hW] at t3; cases t3
    exact ⟨⟨ps, by rw [upd_ne ne]; exact t1, okk⟩, t2, by rw [upd_ne ne]; exact t3⟩
  · refine ⟨fun k' c' fs' e => ?_, fun k' b' dd d e => ?_, fun j k' c1 f1 c2 f2 b e1 e2 h1 h2 => ?_⟩
    · rw [lookup_setO] at e
      by_cases hkk : k' = k
      · subst hkk
        rw [if_pos rfl] at e
        cases e
        exact ⟨a, C, dx, putF f u us, ha, upd_same, hC, hf.put r⟩
      · rw [if_neg hkk] at e
        obtain ⟨a', C', dx', us', h1, h2, h3, h4⟩ := ok.ob k' c' fs' e
        have ne : a' ≠ a := fun z => hkk (ok.nd k' k c' fs' c fs a e hk (z ▸ h1) ha)
        exact ⟨a', C', dx', us', h1, by rw [upd_ne ne]; exact h2, h3, h4⟩
    · rw [lookup_setO] at e
      by_cases hkk : k' = k
      · subst hkk
        rw [if_pos rfl] at e
        cases e
      · rw [if_neg hkk] at e
        obtain ⟨h1, h2⟩ := ok.ex k' b' dd d e
        refine ⟨h1, fun b f z => ?_⟩
        obtain ⟨w, h3, h4⟩ := h2 b f z
        have ne : b ≠ a := fun z => by rw [z, hW] at h3; cases h3
        exact ⟨w, by rw [upd_ne ne]; exact h3, h4⟩
    · have back : ∀ {j : Nat} {c1 : Str} {f1 : List (Str × Vl)}, (setO os k (.obj c (putV f v fs))).lookup j = some (.obj c1 f1) → ∃ c2 f2, os.lookup j = some (.obj c2 f2) := fun {j c1 f1} e => by
        rw [lookup_setO] at e
        by_cases hj : j = k
        · subst hj
          exact ⟨c, fs, hk⟩
        · rw [if_neg hj] at e
          exact ⟨_, _, e⟩
      obtain ⟨_, _, e1'⟩ := back e1
      obtain ⟨_, _, e2'⟩ := back e2
      exact ok.nd j k' _ _ _ _ b e1' e2' h1 h2
section
variable {X : Cx} {Wx : WX} {pos pos' : Pos} {os : OS} {e o : Expr} {c f : Str}

def onF (os : OS) (c f : Str) (v : Vl) (P : Vl → Prop) : Prop := match v with
  | .c k => ∃ fs x, os.lookup k = some (.obj c fs) ∧ fs.lookup f = some x ∧ P x
  | _ => False
def dFld (os : OS) (c f : Str) (te : DE) : DE := fun m Q => te m fun v m1 => onF os c f v fun x => Q x m1
theorem je_fld {te : DE} (hc : ClsO X.K c) (hn : NoaO X.K c f) (he : @JE (gho X.K os) X e te) (hb : attributeBase e f X.env (eval e X.env) = eval e X.env := by rfl) : @JE (gho X.K os) X (.Attribute e f pos) (dFld os c f te) := by
  letI : Ghost := gho X.K os
  refine (pe_fld he hb).imp fun σ H Q hh => ?_
  obtain ⟨W, F, A, m, Qd, G, h, cc⟩ := hh
  refine ⟨W, F, A, m, _, G, h, fun F1 A1 v m1 H1 s1 p1 G1 q1 u r1 => ?_⟩
  cases v with
  | d x => exact (show False from q1).elim
  | c k =>
    obtain ⟨fs, x, hk, hf, q⟩ := q1
    obtain ⟨a, C, dx, us, h1, h2, h3, h4⟩ := (Good.ghp G1).ob k c fs hk
    obtain ⟨C', n1, cl⟩ := hc
    rw [h3] at n1
    cases n1
    obtain ⟨a', ha', rfl⟩ := r1
    rw [h1] at ha'
    cases ha'
    obtain ⟨w, hw, rw_⟩ := h4.vals f x hf
    exact ⟨a, C, dx, us, w, rfl, G1.hid _ _ h2, cl, hn C h3, hw, cc F1 A1 x m1 H1 s1 p1 G1 q w rw_⟩

def xFld (i : Nat) (c f : Str) (t : DEO) : DSO := fun Ex E m os => t Ex m os fun v m1 os1 => ∃ k fs, m1.sl[i]? = some (some (.c k)) ∧ os1.lookup k = some (.obj c fs) ∧ fs.length < 900 ∧ E.nx m1 (setO os1 k (.obj c (putV f v fs)))
theorem so_fld {i : Nat} {n : Str} {te : DEO} {p : Pos} (hc : ClsO X.K c) (hn : NoaO X.K c f) (hN : X.N[i]? = some n) (hv : Vis X.env.scope n) (he : JEO X Wx e te) (hs : swapsWith e (some (.Attribute (.Name n p) f pos')) pos.line X.env = pure false := by rfl)
    (n1 : (n == ("__debug__" : Str)) = false := by decide) (n2 : (n == ("__classdict__" : Str)) = false := by decide) : JSO X Wx (.Assign [.Attribute (.Name n p) f pos'] e pos) (xFld i c f te) :=
  (ps_fld (pe_var hN hv n1 n2) he hs).imp fun D σ H hh => by
    obtain ⟨W, F, A, m, os, W', E, Ex, G, h, cc, cx⟩ := hh
    refine ⟨W, F, A, m, os, W', _, Ex, G, h, fun F1 A1 v m1 os1 H1 W1 s1 p1 G1 q1 u r1 => ?_, cx⟩
    obtain ⟨k, fs, hs, hk, hl, q⟩ := q1
    obtain ⟨a, C, dx, us, h1, h2, h3, h4⟩ := (Good.ghp G1.G).ob k c fs hk
    obtain ⟨C', n1, cl⟩ := hc
    rw [h3] at n1
    cases n1
    obtain ⟨w, hw, a', ha', rfl⟩ := (show ∃ w, σ[i]? = some (some w) ∧ RepV X.K F1 A1 (.c k) w from by
      obtain ⟨_, _, g⟩ := G1
      obtain ⟨_, _, _, _, sl, _⟩ := g
      exact sl i _ hs)
    rw [h1] at ha'
    cases ha'
    have hH : H1 a = some (.ins C dx us) := by
      obtain ⟨_, _, g⟩ := G1
      obtain ⟨_, hid, _⟩ := g
      exact hid _ _ h2
    refine ⟨_, hw, a, C, dx, us, rfl, hH, cl, hn C h3, by rw [h4.len]; omega, ?_⟩
    exact cc.nx F1 A1 m1 _ σ _ _ s1 p1 (G1.put hk h1 h2 h3 h4 r1) q
end
end RT

set_option maxRecDepth 100000
set_option maxHeartbeats 4000000

namespace RT
open PySem PySem.Spec PyProof.Rows L2
section
variable {X : Cx} {Wx : WX} {pos pos' : Pos} {os : OS} {e o : Expr} {c f : Str}

def xFldAug (i : Nat) (c f : Str) (op : Int → Int) : DSO := fun Ex E m os => ∃ k fs z, m.sl[i]? = some (some (.c k)) ∧ os.lookup k = some (.obj c fs) ∧ fs.lookup f = some (.d (.int z)) ∧ fs.length < 900 ∧ E.nx m (setO os k (.obj c (putV f (.d (.int (op z))) fs)))
theorem fldaug_up {K : PySem.W.Frag} {i : Nat} {op : Int → Int} {D : Ends} {σ : L2.St} {H : Hp} (hc : ClsO K c) (hn : NoaO K c f) (hh : liftSO K Wx (xFldAug i c f op) D σ H) :
    ∃ a C dx us z, σ[i]? = some (some (.ref a)) ∧ H a = some (.ins C dx us) ∧ Cls K C ∧ NoAttr K C f ∧ us.lookup f = some (.int z) ∧ us.length < 1000 ∧ D.nx σ (upd H a (.ins C dx (putF f (.int (op z)) us))) := by
  obtain ⟨W, F, A, m, os, W', E, Ex, G, ⟨k, fs, z, hs, hk, hf, hl, q⟩, cc, cx⟩ := hh
  obtain ⟨a, C, dx, us, h1, h2, h3, h4⟩ := (Good.ghp G.G).ob k c fs hk
  obtain ⟨C', n1, cl⟩ := hc
  rw [h3] at n1
  cases n1
  obtain ⟨w, hw, a', ha', rfl⟩ := (show ∃ w, σ[i]? = some (some w) ∧ RepV K F A (.c k) w from by
    obtain ⟨_, _, g⟩ := G
    obtain ⟨_, _, _, _, sl, _⟩ := g
    exact sl i _ hs)
  rw [h1] at ha'
  cases ha'
  have hH : H a = some (.ins C dx us) := by
    obtain ⟨_, _, g⟩ := G
    obtain ⟨_, hid, _⟩ := g
    exact hid _ _ h2
  obtain ⟨u, hu, ru⟩ := h4.vals f _ hf
  have ru' : Rep K F (.int z) u := ru
  simp only [Rep] at ru'
  subst ru'
  exact ⟨a, C, dx, us, z, hw, hH, cl, hn C h3, hu, by rw [h4.len]; omega, cc.nx F A m _ σ _ _ (Same.refl _) (pre_refl _) (G.put hk h1 h2 h3 h4 (v := .d (.int (op z))) (show Rep K F (.int (op z)) (.int (op z)) from rep_int)) q⟩
theorem so_fldadd {i : Nat} {n : Str} {d : Int} {j : Nat} {p p2 : Pos} (hc : ClsO X.K c) (hn : NoaO X.K c f) (hN : X.N[i]? = some n) (hv : Vis X.env.scope n)
    (n1 : (n == ("__debug__" : Str)) = false := by decide) (n2 : (n == ("__classdict__" : Str)) = false := by decide) : JSO X Wx (.AugAssign (.Attribute (.Name n p) f pos') .Add (.Constant (.int d) j p2) pos) (xFldAug i c f (· + d)) :=
  (ps_fldaug (pe_var hN hv n1 n2) pe_int in_add).imp fun D σ H hh => by
    obtain ⟨a, C, dx, us, z, h1, h2, h3, h4, h5, h6, q⟩ := fldaug_up hc hn hh
    exact ⟨_, h1, a, C, dx, us, .int z, rfl, h2, h3, h4, h5, z, d, rfl, rfl, dx, us, h2, h6, q⟩

def MthO (P : Program) (w : World) (K : PySem.W.Frag) (mg : Str → Option Value) (base : Heap) (c m : Str) (k : Nat) (sp : FSpecO) : Prop :=
  ∃ (C f : Addr) (fd : FuncData) (ps : List Str), PySem.W.nsIn K mainGlobals c = some (some (.ref C)) ∧ Cls K C ∧ Meth K C m f ∧ Fnn P w K mg base (L2.CX P w) k f fd ps (liftSpO K sp) ∧ Binds K fd ps []
def xMeth (c m : Str) (sp : FSpecO) (to : DEO) (ts : DAO) : DEO := fun Ex st os Q => to Ex st os fun v m1 os1 => (match v with
  | .c k => ∃ fs, os1.lookup k = some (.obj c fs) ∧ fs.lookup m = none
  | _ => False) ∧ ts Ex m1 os1 fun vs m2 os2 => sp (v :: vs) m2.st os2 (fun r st' os' => Q r ⟨m2.sl, st'⟩ os') (fun x d st' os' => Ex x d ⟨m2.sl, st'⟩ os')
theorem eo_meth {j k : Nat} {m : Str} {pl : Sem Bool} {es : List Expr} {apos : Pos} {to : DEO} {ts : DAO} {sp : FSpecO} (F : MthO X.prog X.w X.K X.mg X.base c m j sp) (hr : GRoom k X.A) (tk : Takes X Wx) (ho : JEO X Wx o to) (ha : JAO X Wx (e :: es) ts) (hj : j ≤ k := by decide)
    (hst : starEach (e :: es) X.env = (false, eval e X.env) :: starEach es X.env := by rfl) (hpl : (backTo pos (starEach es X.env)).any (·.1) = false := by rfl)
    (ht : eval (.Call (.Attribute o m apos) (e :: es) [] pos) X.env = (do
      let ov ← eval o X.env
      standAt apos.atName
      let (f, first) ← holding [ov] (getMethod ov m pl)
      callWith pos f first (backTo pos (starEach (e :: es) X.env)) (backToKw pos (keywordEach [] X.env))) := by rfl) :
    JEO X Wx (.Call (.Attribute o m apos) (e :: es) [] pos) (xMeth c m sp to ts) := by
  obtain ⟨C, f, fd, ps, hC, cl, hm, F, hb⟩ := F
  refine ⟨fun pins s σ H Q I h => ?_⟩
  obtain ⟨W, Fr, A, m0, os, W', Qd, Ex, G, h, cc, cx⟩ := h
  refine PySem.W.methodCall_KW (pl := pl) (thn (ho.run pins s σ H (fun x H1 => ∃ a dx us, x = .ref a ∧ H1 a = some (.ins C dx us) ∧ us.lookup m = none ∧ liftAO X.K Wx ts σ H1 fun vs H2 => liftSpO X.K sp (x :: vs) H2 Q (WE Wx σ)) I ⟨W, Fr, A, m0, os, W', _, Ex, G, h, ?_, cx⟩) fun u s1 ⟨x, H1, I1, rx, a, dx, us, ex, ea, l, q⟩ => ?_) ht
  · intro F1 A1 v m1 os1 H1 W1 s1 p1 G1 q1 u r1
    obtain ⟨hv, q1⟩ := q1
    cases v with
    | d x => exact hv.elim
    | c k' =>
      obtain ⟨fs, hk, hf⟩ := hv
      obtain ⟨a, C', dx, us, h1, h2, h3, h4⟩ := (Good.ghp G1.G).ob k' c fs hk
      rw [hC] at h3
      cases h3
      obtain ⟨a', ha', rfl⟩ := r1
      rw [h1] at ha'
      cases ha'
      have hH : H1 a = some (.ins C dx us) := by
        obtain ⟨_, _, g⟩ := G1
        obtain ⟨_, hid, _⟩ := g
        exact hid _ _ h2
      refine ⟨a, dx, us, rfl, hH, (h4.none m).mpr hf, W, F1, A1, m1, os1, W1, _, Ex, G1, q1, fun F2 A2 vs m2 os2 H2 W2 s2 p2 G2 q2 ws r2 => ?_, cx.mono s1 p1⟩
      refine lift_spO G2 (vs := .c k' :: vs) ⟨_, ws, rfl, ⟨a, pre_get p2 h1, rfl⟩, r2⟩ q2 (fun F3 A3 v m3 os3 H3 W3 s3 p3 => cc F3 A3 v m3 os3 H3 W3 (s1.trans (s2.trans s3)) (pre_trans p1 (pre_trans p2 p3))) (cx.mono (s1.trans s2) (pre_trans p1 p2))
  · subst ex
    obtain rfl : u = Value.ref a := rx
    refine getmeth_ok I1 ea cl hm l ?_
    refine PySem.W.callWith_K (first := [.ref a]) (h₀ := X.base) I.ok.mod.kin hm.kp (thn (ha.run pos pins s1 σ H1 _ I1 q) fun ws s2 ⟨vs, H2, I2, r, q2⟩ => ⟨I2.kIn, ?_⟩) hst hpl
    exact run_fnX (us := .ref a :: ws) (vs := .ref a :: vs) F (hr.mono hj) hb (passAt tk σ) I2 (.cons rfl r) q2
theorem eo_meth0 {j k : Nat} {m : Str} {pl : Sem Bool} {apos : Pos} {to : DEO} {sp : FSpecO} (F : MthO X.prog X.w X.K X.mg X.base c m j sp) (hr : GRoom k X.A) (tk : Takes X Wx) (ho : JEO X Wx o to) (hj : j ≤ k := by decide)
    (ht : eval (.Call (.Attribute o m apos) [] [] pos) X.env = (do
      let ov ← eval o X.env
      standAt apos.atName
      let (f, first) ← holding [ov] (getMethod ov m pl)
      callWith pos f first (backTo pos (starEach [] X.env)) (backToKw pos (keywordEach [] X.env))) := by rfl) :
    JEO X Wx (.Call (.Attribute o m apos) [] [] pos) (xMeth c m sp to xNil) := by
  obtain ⟨C, f, fd, ps, hC, cl, hm, F, hb⟩ := F
  refine ⟨fun pins s σ H Q I h => ?_⟩
  obtain ⟨W, Fr, A, m0, os, W', Qd, Ex, G, h, cc, cx⟩ := h
  refine PySem.W.methodCall_KW (pl := pl) (thn (ho.run pins s σ H (fun x H1 => ∃ a dx us, x = .ref a ∧ H1 a = some (.ins C dx us) ∧ us.lookup m = none ∧ liftSpO X.K sp [x] H1 Q (WE Wx σ)) I ⟨W, Fr, A, m0, os, W', _, Ex, G, h, ?_, cx⟩) fun u s1 ⟨x, H1, I1, rx, a, dx, us, ex, ea, l, q⟩ => ?_) ht
  · intro F1 A1 v m1 os1 H1 W1 s1 p1 G1 q1 u r1
    obtain ⟨hv, q1⟩ := q1
    cases v with
    | d x => exact hv.elim
    | c k' =>
      obtain ⟨fs, hk, hf⟩ := hv
      obtain ⟨a, C', dx, us, h1, h2, h3, h4⟩ := (Good.ghp G1.G).ob k' c fs hk
      rw [hC] at h3
      cases h3
      obtain ⟨a', ha', rfl⟩ := r1
      rw [h1] at ha'
      cases ha'
      have hH : H1 a = some (.ins C dx us) := by
        obtain ⟨_, _, g⟩ := G1
        obtain ⟨_, hid, _⟩ := g
        exact hid _ _ h2
      refine ⟨a, dx, us, rfl, hH, (h4.none m).mpr hf, ?_⟩
      exact lift_spO G1 (vs := [.c k']) ⟨_, [], rfl, ⟨a, h1, rfl⟩, rfl⟩ q1 (fun F3 A3 v m3 os3 H3 W3 s3 p3 => cc F3 A3 v m3 os3 H3 W3 (s1.trans s3) (pre_trans p1 p3)) (cx.mono s1 p1)
  · subst ex
    obtain rfl : u = Value.ref a := rx
    refine getmeth_ok I1 ea cl hm l ?_
    exact PySem.W.callWith_K0 (first := [.ref a]) I1.kIn hm.kp (run_fnX (us := [.ref a]) (vs := [.ref a]) F (hr.mono hj) hb (passAt tk σ) I1 (.cons rfl .nil) q)
end
end RT

set_option maxRecDepth 100000
set_option maxHeartbeats 4000000

namespace RT
open PySem PySem.Spec PyProof.Rows L2
def MkO (P : Program) (w : World) (K : PySem.W.Frag) (mg : Str → Option Value) (base : Heap) (c : Str) (k : Nat) (sp : FSpecO) : Prop :=
  ∃ (C f : Addr) (fd : FuncData) (ps : List Str), PySem.W.nsIn K mainGlobals c = some (some (.ref C)) ∧ mg c = some (.ref C) ∧ Mk K C f ∧ Fnn P w K mg base (L2.CX P w) k f fd ps (liftSpO K sp) ∧ Binds K fd ps []
theorem OsOk.fresh {K : PySem.W.Frag} {os : OS} {W F : Hp} {A : List Addr} (h : OsOk K os W F A) {k : Nat} (hk : A.length ≤ k) : os.lookup k = none := by
  cases z : os.lookup k with
  | none => rfl
  | some o =>
    have at0 : A[k]? = none := List.getElem?_eq_none hk
    cases o with
    | obj c fs =>
      obtain ⟨a, _, _, _, h1, _⟩ := h.ob k c fs z
      rw [at0] at h1
      cases h1
    | exc a dd d =>
      obtain ⟨h1, _⟩ := h.ex k a dd d z
      rw [at0] at h1
      cases h1
theorem GoodO.made {K : PySem.W.Frag} {W F : Hp} {A : List Addr} {m : M} {os : OS} {σ : L2.St} {H W' : Hp} {c : Str} {C x dx : Addr} (G : GoodO K W F A m os σ H W') (hC : PySem.W.nsIn K mainGlobals c = some (some (.ref C))) (nx : H x = none) (ndx : H dx = none) (ne : dx ≠ x) :
    GoodO K W F (A ++ [x]) ⟨m.sl, m.st ++ [.dead]⟩ (setO os m.st.length (.obj c [])) σ (upd (upd H dx (.own x)) x (.ins C dx [])) (upd W' x (.ins C dx [])) := by
  have ok := Good.ghp G.G
  have G1 := @Good.ptr (gho K os) _ _ _ _ _ _ _ x G.G
  have pr : A <+: A ++ [x] := ⟨[x], rfl⟩
  have lA : A.length = m.st.length := by
    obtain ⟨_, _, g⟩ := G
    obtain ⟨_, _, _, _, _, l, _⟩ := g
    exact l
  obtain ⟨sW, out, g⟩ := G
  obtain ⟨ext, hid, dj, _⟩ := g
  obtain ⟨_, _, _, slen, sl, len, st, nd, tb, _⟩ := G1
  have wx' : W' x = none := by
    cases z : W' x with
    | none => rfl
    | some o => rw [hid _ _ z] at nx; cases nx
  have wx : W x = none := by
    cases z : W x with
    | none => rfl
    | some o => rw [sW _ _ z] at wx'; cases wx'
  have fx : F x = none := by
    cases z : F x with
    | none => rfl
    | some o => rw [ext _ _ z] at nx; cases nx
  have up : ∀ b o, H b = some o → upd (upd H dx (.own x)) x (.ins C dx []) b = some o := fun b o e => by
    have n1 : b ≠ x := fun z => by rw [z, nx] at e; cases e
    have n2 : b ≠ dx := fun z => by rw [z, ndx] at e; cases e
    rw [upd_ne n1, upd_ne n2]
    exact e
  have atx : (A ++ [x])[m.st.length]? = some x := by
    rw [← lA]
    simp
  have fr := ok.fresh (k := m.st.length) (by omega)
  have lk : ∀ {j : Nat} {o : OCell}, (setO os m.st.length (.obj c [])).lookup j = some o → (j = m.st.length ∧ o = .obj c []) ∨ (j ≠ m.st.length ∧ os.lookup j = some o) := fun {j o} e => by
    rw [lookup_setO] at e
    by_cases h : j = m.st.length
    · rw [if_pos h] at e
      cases e
      exact .inl ⟨h, rfl⟩
    · rw [if_neg h] at e
      exact .inr ⟨h, e⟩
  refine ⟨fun b o e => ?_, fun k c' fs a e h => ?_, @Good.mk (gho K _) _ _ _ _ _ _ _ ?_ ?_ ?_ slen sl len ?_ nd ?_ ?_⟩
  · rw [upd_ne (fun z => by rw [z, wx] at e; cases e)]
    exact sW b o e
  · rcases lk e with ⟨rfl, _⟩ | ⟨_, e⟩
    · rw [atx] at h
      cases h
      exact wx
    · obtain ⟨a0, _, _, _, g1, _⟩ := ok.ob k c' fs e
      have := pre_get pr g1
      rw [h] at this
      cases this
      exact out k c' fs a e g1
  · exact fun b o e => up b o (ext b o e)
  · intro b o e
    by_cases hb : b = x
    · rw [hb, upd_same] at e
      cases e
      rw [hb, upd_same]
    · rw [upd_ne hb] at e
      exact up b o (hid b o e)
  · intro b o e
    by_cases hb : b = x
    · rw [hb]
      exact fx
    · rw [upd_ne hb] at e
      exact dj b o e
  · intro j xs e
    obtain ⟨b, vs, h1, h2, h3, h4, h5⟩ := st j xs e
    have n1 : b ≠ x := fun z => by rw [z, nx] at h2; cases h2
    exact ⟨b, vs, h1, up _ _ h2, h3, h4, by rw [upd_ne n1]; exact h5⟩
  · intro q hq
    obtain ⟨⟨ps, t1, okk⟩, t2, t3⟩ := tb q hq
    have n1 : q.2 ≠ x := fun z => by rw [z, nx] at t1; cases t1
    exact ⟨⟨ps, up _ _ t1, okk⟩, t2, by rw [upd_ne n1]; exact t3⟩
  · refine ⟨fun k c' fs e => ?_, fun k a dd d e => ?_, fun j k c1 f1 c2 f2 b e1 e2 h1 h2 => ?_⟩
    · rcases lk e with ⟨rfl, e'⟩ | ⟨_, e⟩
      · cases e'
        exact ⟨x, C, dx, [], atx, upd_same, hC, rfl, fun f v e => by simp at e⟩
      · obtain ⟨a, C', dx', us, h1, h2, h3, h4⟩ := ok.ob k c' fs e
        have n1 : a ≠ x := fun z => by rw [z, wx'] at h2; cases h2
        exact ⟨a, C', dx', us, pre_get pr h1, by rw [upd_ne n1]; exact h2, h3, h4.mono (Same.refl _) pr⟩
    · rcases lk e with ⟨_, e'⟩ | ⟨_, e⟩
      · cases e'
      · obtain ⟨h1, h2⟩ := ok.ex k a dd d e
        refine ⟨pre_get pr h1, fun b f z => ?_⟩
        obtain ⟨u, h3, h4⟩ := h2 b f z
        have n1 : b ≠ x := fun z => by rw [z, wx'] at h3; cases h3
        exact ⟨u, by rw [upd_ne n1]; exact h3, h4⟩
    · have ad : ∀ {j : Nat} {c : Str} {fs : List (Str × Vl)}, os.lookup j = some (.obj c fs) → ∀ b, (A ++ [x])[j]? = some b → b ≠ x ∧ A[j]? = some b := fun {j c fs} e b h => by
        obtain ⟨a0, _, _, _, g1, g2, _⟩ := ok.ob j c fs e
        have := pre_get pr g1
        rw [h] at this
        cases this
        exact ⟨fun z => (by rw [z, wx'] at g2; cases g2), g1⟩
      rcases lk e1 with ⟨rfl, _⟩ | ⟨_, e1⟩
      · rcases lk e2 with ⟨rfl, _⟩ | ⟨_, e2⟩
        · rfl
        · rw [atx] at h1
          cases h1
          exact absurd rfl (ad e2 _ h2).1
      · rcases lk e2 with ⟨rfl, _⟩ | ⟨_, e2⟩
        · rw [atx] at h2
          cases h2
          exact absurd rfl (ad e1 _ h1).1
        · exact ok.nd j k _ _ _ _ b e1 e2 (ad e1 _ h1).2 (ad e2 _ h2).2
theorem run_makeX {X : Cx} {CX : CXT} {k : Nat} {C f : Addr} {fd : FuncData} {ps : List Str} {sp : Sp} {E : XK} {pins : List (Addr × Obj)} {σ : L2.St} {H : Hp} {s : Shared} {Q : VK} {us : List Value} {vs : List V} (M : Mk X.K C f) (F : Fnn X.prog X.w X.K X.mg X.base CX k f fd ps sp) (hr : GRoom (k + 1) X.A) (hb : Binds X.K fd ps [])
    (hx : PassesAt CX X σ E) (I : Inv X pins σ H s) (r : Vals vs us)
    (h : ∀ x dx, H x = none → H dx = none → dx ≠ x → sp (.ref x :: vs) (upd (upd H dx (.own x)) x (.ins C dx [])) (fun v H2 => v = .non ∧ Q (.ref x) H2) E) :
    wpAny (model X.prog X.w) X.A (call (.ref C) us) (EP X pins σ Q) X.xe s := by
  have hq := h (s.heap.objs.size + 1) s.heap.objs.size (I.hok.fresh (Nat.le_succ _)) (I.hok.fresh (Nat.le_refl _)) (Nat.ne_of_lt (Nat.lt_succ_self _))
  have I2 := Inv.made (C := C) I
  have r2 : Vals (V.ref (s.heap.objs.size + 1) :: vs) (Value.ref (s.heap.objs.size + 1) :: us) := .cons rfl r
  have hl : (Value.ref (s.heap.objs.size + 1) :: us).length = ps.length := by
    have e := r2.length
    rw [F.len _ _ _ _ hq] at e
    exact e.symm
  have bd := hb _ (Value.ref (s.heap.objs.size + 1) :: us) I2.kIn (by rw [List.append_nil]; exact hl)
  rw [List.append_nil] at bd
  refine wpAny_call (make_map (f := f) I.kIn M.makes M.init (beq_iff_eq.mp M.fn) (codeAny_mono (F.run _ X.stack _ _ ⟨Value.ref (s.heap.objs.size + 1) :: us, []⟩ (Value.ref (s.heap.objs.size + 1) :: us) _ _ E (hr.make C us)
    (I2.env0.make C us []) bd r2 hq) fun r s' hq' => ?_))
  cases r with
  | error e => exact hx pins _ _ e s' I2 hq'
  | ok fl =>
    cases fl with
    | ret u =>
      obtain ⟨v, H', I3, rv, ev, q3⟩ := I2.after hq'
      subst ev
      exact ⟨rv, ⟨V.ref (s.heap.objs.size + 1), H', I3, rfl, q3⟩⟩
    | next => exact False.elim hq'
    | brk => exact False.elim hq'
    | cont => exact False.elim hq'
section
variable {X : Cx} {Wx : WX} {pos p : Pos} {e : Expr} {es : List Expr} {c : Str}
def xMake (c : Str) (sp : FSpecO) (ts : DAO) : DEO := fun Ex m os Q => ts Ex m os fun vs m1 os1 => sp (.c m1.st.length :: vs) (m1.st ++ [.dead]) (setO os1 m1.st.length (.obj c []))
  (fun r st' os' => r = .d .non ∧ Q (.c m1.st.length) ⟨m1.sl, st'⟩ os') (fun x d st' os' => Ex x d ⟨m1.sl, st'⟩ os')
theorem eo_make {j k : Nat} {ts : DAO} {sp : FSpecO} (F : MkO X.prog X.w X.K X.mg X.base c j sp) (hr : GRoom k X.A) (hg : Gl X c) (tk : Takes X Wx) (ha : JAO X Wx (e :: es) ts) (hj : j + 1 ≤ k := by decide) (hdb : (c == ("__debug__" : Str)) = false := by decide)
    (he : starEach (e :: es) X.env = (false, eval e X.env) :: starEach es X.env := by rfl) (hpl : (backTo pos (starEach es X.env)).any (·.1) = false := by rfl) : JEO X Wx (.Call (.Name c p) (e :: es) [] pos) (xMake c sp ts) := by
  obtain ⟨C, f, fd, ps, hC, hm, M, F, hb⟩ := F
  refine ⟨fun pins s σ H Q I h => ?_⟩
  obtain ⟨W, Fr, A, m, os, W', Qd, Ex, G, h, cc, cx⟩ := h
  refine wpAny_Call_Name_kw (ld_glob I hg hm ?_ hdb)
  refine PySem.W.callWith_K (h₀ := X.base) I.ok.mod.kin M.kp (thn (ha.run pos pins s σ H (fun us H1 => ∀ x dx, H1 x = none → H1 dx = none → dx ≠ x → liftSpO X.K sp (.ref x :: us) (upd (upd H1 dx (.own x)) x (.ins C dx [])) (fun v H2 => v = .non ∧ Q (.ref x) H2) (WE Wx σ)) I ?_) fun us s1 ⟨vs, H1, I1, r, q⟩ => ⟨I1.kIn, ?_⟩) he hpl
  · refine ⟨W, Fr, A, m, os, W', _, Ex, G, h, fun F1 A1 vs m1 os1 H1 W1 s1 p1 G1 q1 us r1 x dx nx ndx ne => ?_, cx⟩
    have lA : A1.length = m1.st.length := by
      obtain ⟨_, _, g⟩ := G1
      obtain ⟨_, _, _, _, _, l, _⟩ := g
      exact l
    have G2 := GoodO.made (c := c) (C := C) G1 hC nx ndx ne
    have pr : A1 <+: A1 ++ [x] := ⟨[x], rfl⟩
    have atx : (A1 ++ [x])[m1.st.length]? = some x := by
      rw [← lA]
      simp
    refine ⟨W, F1, A1 ++ [x], m1.st ++ [.dead], _, _, .c m1.st.length :: vs, _, _, G2.bare, ⟨_, us, rfl, ⟨x, atx, rfl⟩, RepVs.mono (Same.refl _) pr r1⟩, q1, fun F3 A3 st3 os3 H3 W3 r u s3 p3 G3 r3 q3 => ?_, fun F3 A3 st3 os3 H3 W3 x' d v dd s3 p3 G3 xf e q3 => ?_⟩
    · obtain ⟨rfl, q3⟩ := q3
      have r3' : Rep X.K F3 .non u := r3
      simp only [Rep] at r3'
      refine ⟨r3', ?_⟩
      exact cc F3 A3 (.c m1.st.length) ⟨m1.sl, st3⟩ os3 H3 W3 (s1.trans s3) (pre_trans p1 (pre_trans pr p3)) (G1.back s3 (pre_trans pr p3) G3) q3 (.ref x) ⟨x, pre_get p3 atx, rfl⟩
    · exact cx F3 A3 ⟨m1.sl, st3⟩ os3 σ H3 W3 x' d v dd (s1.trans s3) (pre_trans p1 (pre_trans pr p3)) (G1.back s3 (pre_trans pr p3) G3) xf e q3
  · exact run_makeX M F (hr.mono hj) hb (passAt tk σ) I1 r q
end
end RT

set_option maxRecDepth 100000
set_option maxHeartbeats 4000000

namespace RT
open PySem PySem.Spec PyProof.Rows L2
section
variable {X : Cx} {Wx : WX} {pos pos' : Pos} {e o : Expr} {es : List Expr}
def xNot (t : DTO) : DTO := fun Ex m os Q => t Ex m os fun b m1 os1 => Q (!b) m1 os1
theorem to_not {t : DTO} (h : JTO X Wx e t) : JTO X Wx (.UnaryOp .Not e pos) (xNot t) := (pt_not h).imp fun σ H Q hh => by
  obtain ⟨W, F, A, m, os, W', Qd, Ex, G, h, c, cx⟩ := hh
  exact ⟨W, F, A, m, os, W', _, Ex, G, h, fun F1 A1 b m1 os1 H1 W1 s1 p1 G1 q1 => c F1 A1 (!b) m1 os1 H1 W1 s1 p1 G1 q1, cx⟩
def xTru (t : DEO) : DTO := fun Ex m os Q => t Ex m os fun v m1 os1 => match v with
  | .d (.bl b) => Q b m1 os1
  | _ => False
theorem to_tru {t : DEO} (h : JEO X Wx e t) (he : ∀ whole, isTrue e X.env whole = (do let v ← whole; standAt e.pos; holding [v] (truthy v)) := by intro _; rfl) : JTO X Wx e (xTru t) := (pt_val h he).imp fun σ H Q hh => by
  obtain ⟨W, F, A, m, os, W', Qd, Ex, G, h, c, cx⟩ := hh
  refine ⟨W, F, A, m, os, W', _, Ex, G, h, fun F1 A1 v m1 os1 H1 W1 s1 p1 G1 q1 u r1 => ?_, cx⟩
  cases v with
  | c k => exact (show False from q1).elim
  | d x =>
    cases x with
    | bl b =>
      have r1' : Rep X.K F1 (.bl b) u := r1
      simp only [Rep] at r1'
      exact ⟨b, r1', c F1 A1 b m1 os1 H1 W1 s1 p1 G1 q1⟩
    | _ => exact (show False from q1).elim
def xLstO (ts : DAO) : DEO := fun Ex m os Q => ts Ex m os fun vs m1 os1 => vs.length ≤ sizeLine ∧ onDs vs fun xs => Q (.c m1.st.length) ⟨m1.sl, m1.st ++ [.lst xs]⟩ os1
theorem eo_lstO {ts : DAO} (h : JAO X Wx es ts) : JEO X Wx (.List es pos) (xLstO ts) := (pe_lst h).imp fun σ H Q hh => by
  obtain ⟨W, F, A, m, os, W', Qd, Ex, G, h, c, cx⟩ := hh
  refine ⟨W, F, A, m, os, W', _, Ex, G, h, fun F1 A1 vs m1 os1 H1 W1 s1 p1 G1 q1 us r1 => ⟨by rw [← r1.length]; exact q1.1, fun p np => ?_⟩, cx⟩
  obtain ⟨xs, rfl, q⟩ := onDs_elim q1.2
  have lA : A1.length = m1.st.length := by
    obtain ⟨_, _, g⟩ := G1
    obtain ⟨_, _, _, _, _, l, _⟩ := g
    exact l
  refine c F1 (A1 ++ [p]) _ _ os1 _ W1 s1 (pre_trans p1 ⟨[p], rfl⟩) (G1.next ⟨[p], rfl⟩ (@Good.own (gho X.K os1) _ _ _ _ _ _ _ _ _ _ G1.G np (reps_of r1))) q _ ⟨p, ?_, rfl⟩
  rw [← lA]
  simp
def xApp (j : Nat) (ts : DAO) : DEO := fun Ex m os Q => ∃ k, m.sl[j]? = some (some (.c k)) ∧ (∃ zs, m.st[k]? = some (.lst zs)) ∧ ts Ex m os fun vs m1 os1 => onDs vs fun ys => ∃ y, ys = [y] ∧ onC m1.st k fun xs => xs.length < sizeLine ∧ Q (.d .non) ⟨m1.sl, m1.st.set k (.lst (xs ++ [y]))⟩ os1
theorem eo_app {j : Nat} {n : Str} {p apos cpos : Pos} {ts : DAO} (hN : X.N[j]? = some n) (hv : Vis X.env.scope n) (ha : JAO X Wx (e :: es) ts)
    (n1 : (n == ("__debug__" : Str)) = false := by decide) (n2 : (n == ("__classdict__" : Str)) = false := by decide)
    (hbase : attributeBase (.Name n p) "append" X.env (eval (.Name n p) X.env) = eval (.Name n p) X.env := by rfl)
    (hfew : ((backTo cpos (starEach (e :: es) X.env)).all (fun x => !x.1) && (backToKw cpos (keywordEach [] X.env)).all (fun x => x.1.isSome)
      && decide ((e :: es).length + ([] : List Keyword).length + (if ([] : List Keyword).isEmpty then 0 else 1) < 30)) = true := by rfl)
    (hline : (apos.endLine == cpos.line) = true := by rfl) (hs : starEach (e :: es) X.env = (false, eval e X.env) :: starEach es X.env := by rfl) (hplain : (backTo cpos (starEach es X.env)).any (·.1) = false := by rfl) :
    JEO X Wx (.Call (.Attribute (.Name n p) "append" apos) (e :: es) [] cpos) (xApp j ts) := by
  refine (pe_bm PySem.F.plainAttrs_list PySem.F.slot_list_append PySem.F.type_list_append mt_append (pe_var hN hv n1 n2) ha hbase hfew hline hs hplain).imp fun σ H Q hh => ?_
  obtain ⟨W, F, A, m, os, W', Qd, Ex, G, ⟨k, hj, ⟨zs, ez⟩, h⟩, c, cx⟩ := hh
  obtain ⟨w, hw, a, ha', rfl⟩ := (show ∃ w, σ[j]? = some (some w) ∧ RepV X.K F A (.c k) w from by
    obtain ⟨_, _, g⟩ := G
    obtain ⟨_, _, _, _, sl, _⟩ := g
    exact sl j _ hj)
  obtain ⟨a', ws, h1, h2, _, _⟩ := (show ∃ a vs, A[k]? = some a ∧ H a = some (.lst vs) ∧ Reps X.K F zs vs ∧ F a = none ∧ W' a = none from by
    obtain ⟨_, _, g⟩ := G
    obtain ⟨_, _, _, _, _, _, st, _⟩ := g
    exact st k zs ez)
  rw [ha'] at h1
  cases h1
  refine ⟨_, hw, .inl ⟨rfl, _, SqL.of h2⟩, W, F, A, m, os, W', _, Ex, G, h, fun F2 A2 vs m2 os2 H2 W2 s2 p2 G2 q2 us r2 => ?_, cx⟩
  obtain ⟨ys, rfl, y, rfl, q3⟩ := onDs_elim q2
  obtain ⟨xs, ex, q2⟩ := onC_elim q3
  obtain ⟨a', vs', g1, g2, g3, _⟩ := (show ∃ a vs, A2[k]? = some a ∧ H2 a = some (.lst vs) ∧ Reps X.K F2 xs vs ∧ F2 a = none ∧ W2 a = none from by
    obtain ⟨_, _, g⟩ := G2
    obtain ⟨_, _, _, _, _, _, st, _⟩ := g
    exact st k xs ex)
  have hka := pre_get p2 ha'
  rw [hka] at g1
  cases g1
  obtain ⟨u, rfl, ru⟩ := reps1 (reps_of r2)
  refine ⟨a, vs', u, rfl, rfl, g2, by rw [← g3.length]; exact q2.1, ?_⟩
  exact c F2 A2 (.d .non) _ os2 _ W2 s2 p2 (G2.next (pre_refl _) (@Good.write (gho X.K os2) _ _ _ _ _ _ _ _ _ _ _ _ G2.G ex hka (g3.append (.cons ru .nil)))) q2.2 .non rv_non
end
end RT

set_option maxRecDepth 100000
set_option maxHeartbeats 4000000

namespace RT
open PySem PySem.Spec PyProof.Rows L2
variable [Gh : Ghost]
section
variable {X : Cx}

def rInS (neg : Bool) : DR2 := fun x y P => match x, y with
  | .str i, .str j => P (.bl (if neg then !(!(Builtin.Str.occurrences j i 0 j.length 1).isEmpty) else !(Builtin.Str.occurrences j i 0 j.length 1).isEmpty))
  | _, _ => False
theorem o_inS : OpD X (compareOp .In) (rInS false) := ⟨_, L2.op_in_str, fun W F A m σ H x y u v P Q G rx ry q c => by
  unfold rInS at q
  split at q
  · rw [repB_str rx, repB_str ry]
    exact ⟨_, _, rfl, rfl, c F H _ _ (Same.refl _) G rep_bl q⟩
  · exact q.elim⟩
theorem o_notInS : OpD X (compareOp .NotIn) (rInS true) := ⟨_, L2.op_notin_str, fun W F A m σ H x y u v P Q G rx ry q c => by
  unfold rInS at q
  split at q
  · rw [repB_str rx, repB_str ry]
    exact ⟨_, _, rfl, rfl, c F H _ _ (Same.refl _) G rep_bl q⟩
  · exact q.elim⟩
def bIntS : DRB := fun xs P => match xs with
  | [.str a] => a.length ≤ 640 ∧ ∃ n, PySem.intText? a = some n ∧ P (.int n)
  | _ => False
theorem b_intS : BiD X (.type "int") bIntS := ⟨_, L2.call_int_str, fun W F A m σ H xs us P Q G rs q c => by
  unfold bIntS at q
  split at q
  · obtain ⟨u, rfl, ru⟩ := rb1 rs
    rw [repB_str ru]
    obtain ⟨hl, n, hn, q⟩ := q
    exact ⟨_, n, rfl, hn, hl, c F H _ _ (Same.refl _) G rep_int q⟩
  · exact q.elim⟩
variable {e o : Expr} {te to : DE} {pos apos : Pos}

def strsD : List Dt → Option (List Str)
  | [] => some []
  | .str a :: r => (strsD r).map (a :: ·)
  | _ :: _ => none
theorem strsD_ok {K : PySem.W.Frag} {F : Hp} : ∀ {ds : List Dt} {ys : List Str} {vs : List V}, strsD ds = some ys → Reps K F ds vs → vs = ys.map V.str
  | [], ys, vs, e, r => by
    cases e
    simp only [Reps] at r
    exact r
  | d :: ds, ys, vs, e, r => by
    cases d with
    | str a =>
      obtain ⟨zs, e1, e2⟩ := Option.map_eq_some_iff.mp (show (strsD ds).map (a :: ·) = some ys from e)
      subst e2
      simp only [Reps] at r
      obtain ⟨v, rr, rfl, h1, h2⟩ := r
      simp only [Rep] at h1
      rw [h1, strsD_ok e1 h2, List.map_cons]
    | _ => cases e
theorem reps_strs {K : PySem.W.Frag} {F : Hp} : ∀ ys : List Str, Reps K F (ys.map .str) (ys.map V.str)
  | [] => .nil
  | _ :: r => .cons rep_str (reps_strs r)
def onS (v : Vl) (P : Str → Prop) : Prop := match v with
  | .d (.str a) => P a
  | _ => False
theorem onS_elim {v : Vl} {P : Str → Prop} (h : onS v P) : ∃ a, v = .d (.str a) ∧ P a := by
  unfold onS at h
  split at h
  · exact ⟨_, rfl, h⟩
  · exact h.elim
def onStrs (x : Dt) (P : List Str → Prop) : Prop := match x with
  | .lst ds => ∃ ys, strsD ds = some ys ∧ P ys
  | _ => False
def dJoin (to te : DE) : DE := fun m Q => to m fun v m1 => onS v fun a => te m1 fun w m2 => onV m2 w fun x => onStrs x fun ys => (ys.map (·.length)).sum + ys.length * a.length ≤ 16777216 ∧ Q (.d (.str (Txt.join a ys))) m2
theorem je_join (ho : JE X o to) (he : JE X e te) (hs : starEach [e] X.env = [(false, eval e X.env)] := by rfl) (hbase : attributeBase o "join" X.env (eval o X.env) = eval o X.env := by rfl) (hline : (apos.endLine == pos.line) = true := by rfl) :
    JE X (.Call (.Attribute o "join" apos) [e] [] pos) (dJoin to te) := by
  refine (pe_join ho he hs hbase hline).imp fun σ H Q hh => ?_
  obtain ⟨W, F, A, m, Qd, G, h, c⟩ := hh
  refine ⟨W, F, A, m, _, G, h, fun F1 A1 v m1 H1 s1 p1 G1 q1 u r1 => ?_⟩
  obtain ⟨a, rfl, q1⟩ := onS_elim q1
  have ru : u = .str a := repB_str (H := H1) r1
  subst ru
  refine ⟨⟨a, rfl⟩, W, F1, A1, m1, _, G1, q1, fun F2 A2 w m2 H2 s2 p2 G2 q2 u2 r2 => ?_⟩
  obtain ⟨x, ex, q2⟩ := onV_elim q2
  have rx := G2.view r2 ex
  cases x with
  | lst ds =>
    obtain ⟨ys, ey, hz, q⟩ := q2
    obtain ⟨p, vs, rfl, hd, rs⟩ := rx
    have ev := strsD_ok ey rs
    subst ev
    exact ⟨a, p, ys, rfl, rfl, .inl (.inl hd), hz, c F2 A2 _ m2 H2 (s1.trans s2) (pre_trans p1 p2) G2 q (.str (Txt.join a ys)) (rep_str (K := X.K) (F := F2))⟩
  | _ => exact (show False from q2).elim
def dSplit (to te : DE) : DE := fun m Q => to m fun v m1 => onS v fun a => te m1 fun w m2 => onS w fun b => (b.length == 0) = false ∧ a.length + 2 ≤ sizeLine ∧ Q (.d (.lst ((Txt.split a b).map .str))) m2
theorem je_split (ho : JE X o to) (he : JE X e te) (hs : starEach [e] X.env = [(false, eval e X.env)] := by rfl) (hbase : attributeBase o "split" X.env (eval o X.env) = eval o X.env := by rfl) (hline : (apos.endLine == pos.line) = true := by rfl) :
    JE X (.Call (.Attribute o "split" apos) [e] [] pos) (dSplit to te) := by
  refine (pe_split ho he hs hbase hline).imp fun σ H Q hh => ?_
  obtain ⟨W, F, A, m, Qd, G, h, c⟩ := hh
  refine ⟨W, F, A, m, _, G, h, fun F1 A1 v m1 H1 s1 p1 G1 q1 u r1 => ?_⟩
  obtain ⟨a, rfl, q1⟩ := onS_elim q1
  have ru : u = .str a := repB_str (H := H1) r1
  subst ru
  refine ⟨⟨a, rfl⟩, W, F1, A1, m1, _, G1, q1, fun F2 A2 w m2 H2 s2 p2 G2 q2 u2 r2 => ?_⟩
  obtain ⟨b, rfl, hb, hz, q⟩ := onS_elim q2
  have ru : u2 = .str b := repB_str (H := H2) r2
  subst ru
  refine ⟨a, b, rfl, rfl, hb, hz, fun p np => ?_⟩
  obtain ⟨F3, s3, G3, r3⟩ := lst_laid G2 np (reps_strs (K := X.K) (F := F2) (Txt.split a b))
  exact c F3 A2 _ m2 _ (s1.trans (s2.trans s3)) (pre_trans p1 p2) G3 q _ r3

def dSlS (t : DE) (lo hi : DO) : DE := fun m Q => t m fun v m1 => lo m1 fun l m2 => hi m2 fun h m3 => onS v fun z => z.length ≤ sizeLine ∧ Q (.d (.str (cutS z l h))) m3
theorem je_slS {lo hi : Option Expr} {tl th : DO} {p2 : Pos} {t : DE} (he : JE X e t) (hl : JO X lo tl) (hu : JO X hi th) : JE X (.Subscript e (.Slice lo hi none p2) pos) (dSlS t tl th) := by
  refine (pe_slice sl_str he hl hu).imp fun σ H Q hh => ?_
  obtain ⟨W, F, A, m, Qd, G, h, c⟩ := hh
  refine ⟨W, F, A, m, _, G, h, fun F1 A1 v m1 H1 s1 p1 G1 q1 u r1 => ⟨W, F1, A1, m1, _, G1, q1, fun F2 A2 l m2 H2 s2 p2 G2 q2 => ⟨W, F2, A2, m2, _, G2, q2, fun F3 A3 h m3 H3 s3 p3 G3 q3 => ?_⟩⟩⟩
  obtain ⟨z, rfl, hz, q⟩ := onS_elim q3
  have ru : u = .str z := repB_str (H := H3) r1
  subst ru
  exact ⟨z, rfl, hz, c F3 A3 _ m3 H3 (s1.trans (s2.trans s3)) (p1.trans (p2.trans p3)) G3 q (.str (cutS z l h)) (rep_str (K := X.K) (F := F3))⟩

def signs (z : Str) : List Dt := z.cps.toList.map fun c => .str ⟨#[c]⟩
theorem walks_str {K : PySem.W.Frag} {F : Hp} {A : List Addr} (z : Str) : Walks K (Its z) F A (signs z) none where
  go := fun W F' A' m σ H i x sF p G _ hi => by
    have hi' : z.cps.toList[i]?.map (fun c => Dt.str ⟨#[c]⟩) = some x := by rw [← List.getElem?_map]; exact hi
    obtain ⟨c, hc, rfl⟩ := Option.map_eq_some_iff.mp hi'
    have hc' : z.cps[i]? = some c := by rw [← Array.getElem?_toList]; exact hc
    refine ⟨?_, fun v H' y => ?_⟩
    · exact (Array.getElem?_eq_some_iff.mp hc').1
    · obtain ⟨rfl, c', h1, rfl⟩ := y
      rw [hc'] at h1
      cases h1
      exact ⟨F', Same.refl _, G, rep_str⟩
  stop := fun W F' A' m σ H sF p G _ => by
    show z.cps.size ≤ (signs z).length
    unfold signs
    rw [List.length_map, Array.length_toList]
    exact Nat.le_refl _
def dSgn (t : DE) : DI := fun m Q => t m fun v m1 => onS v fun z => Q (signs z) none m1
theorem ji_sgn {tg : Expr} {t : DE} (he : JE X e t) : JI X tg e (dSgn t) := by
  refine (pi_str he).imp fun σ H R hh => ?_
  obtain ⟨W, F, A, m, Qd, G, h, c⟩ := hh
  refine ⟨W, F, A, m, _, G, h, fun F1 A1 v m1 H1 s1 p1 G1 q1 u r1 => ?_⟩
  obtain ⟨z, rfl, q⟩ := onS_elim q1
  have ru : u = .str z := repB_str (H := H1) r1
  subst ru
  exact ⟨z, rfl, c F1 A1 (signs z) none m1 H1 s1 p1 G1 q _ (walks_str z)⟩

def rAddS : DR2 := fun x y P => match x, y with
  | .str i, .str j => i.length + j.length ≤ sizeLine ∧ P (.str (i ++ j))
  | _, _ => False
theorem js_augS {i : Nat} {x : Str} {pos' : Pos} (hN : X.N.Nodup) (hi : X.N[i]? = some x) (hx : Loc X.env.scope x) (he : JE X e te) (hf : X.fn x = true ∨ X.env.scope.names.lookup x = some .local := by first | exact .inl rfl | exact .inr rfl | assumption) :
    JS X (.AugAssign (.Name x pos') .Add e pos) (dAug i rAddS te) := by
  refine (ps_aug hN hi hx he (iop_add_str (X := X)) hf).imp fun D σ H hh => ?_
  obtain ⟨W, F, A, m, E, G, h, c⟩ := hh
  unfold dAug at h
  split at h
  · rename_i y ey
    obtain ⟨u, eu, ru⟩ := G.sl i _ ey
    refine ⟨u, eu, W, F, A, m, _, G, h, fun F1 A1 v m1 H1 s1 p1 G1 q1 w r1 => ?_⟩
    obtain ⟨z, rfl, q⟩ := onD_elim q1
    unfold rAddS at q
    split at q
    · rename_i a b
      have e1 : u = .str a := repB_str (H := H1) ru
      have e2 : w = .str b := repB_str (H := H1) r1
      rw [e1, e2]
      exact ⟨a, b, rfl, rfl, q.1, c.nx F1 A1 _ _ H1 s1 p1 (G1.store (v := .d (.str (a ++ b))) (show Rep X.K F1 (.str (a ++ b)) (.str (a ++ b)) from rep_str)) q.2⟩
    · exact q.elim
  · exact h.elim
end
end RT

set_option maxRecDepth 100000
set_option maxHeartbeats 4000000

namespace RT
open PySem PySem.Spec PyProof.Rows L2
def asM (n : Nat) (ml : List (Str × Str)) (g : Addr → Option Obj) : List Addr :=
  (asK g (He.asD g n) ++ (cStatics :: (ml.map fun q => He.fAd (frN g (He.asD g n)) (q.1, some q.2)).flatMap fun m => m :: match g m with
    | some o => He.refsD o
    | none => [])).eraseDups
def obsM (n : Nat) (ml : List (Str × Str)) (fa : List He.Fa) (fn : List He.DefD) (el : List ErD) (xb : PySem.W.Frag → Bool) (g : Addr → Option Obj) : AlR × List MtW :=
  ((xb (frN g (asM n ml g)) && tabsBK g (frN g (asM n ml g)), He.obsD fa fn (frN g (asM n ml g))), el.map fun d => mtW (frN g (asM n ml g)) d.x)
def hookM (n : Nat) (ml : List (Str × Str)) (fa : List He.Fa) (fn : List He.DefD) (el : List ErD) (xb : PySem.W.Frag → Bool) : PySem.W.Hook where
  α := AlR × List MtW
  obs := fun s => obsM n ml fa fn el xb s.heap.get?
  val := fun _ => ((true, He.valD fn), el.map ErD.val)
  says := fun _ h => ∃ K : PySem.W.Frag, K.In h ∧ NoLst K ∧ TabsOk K h ∧ xb K = true ∧ He.SaysD fa fn K ∧ el.map (fun d => mtW K d.x) = el.map ErD.val
  of := fun _ _ e => ⟨_, frN_in, fun _ _ e => (frN_mem e).2.1, tabsBK_ok (Bool.and_eq_true_iff.mp (congrArg (fun z : AlR × List MtW => z.1.1) e)).2, (Bool.and_eq_true_iff.mp (congrArg (fun z : AlR × List MtW => z.1.1) e)).1, congrArg (fun z : AlR × List MtW => z.1.2) e, congrArg Prod.snd e⟩
  keeps := fun _ _ _ ⟨K, hK, n, t, x, c, m⟩ k => ⟨K, PySem.W.Frag.In.keeps hK k, n, ⟨t.cd, t.out, fun q hq => k _ _ (t.get q hq)⟩, x, c, m⟩
theorem obsM_eq {n : Nat} {ml : List (Str × Str)} {fa : List He.Fa} {fn : List He.DefD} {el : List ErD} {xb : PySem.W.Frag → Bool} {g : Addr → Option Obj} {s : Shared} (h : ∀ a, g a = s.heap.get? a) : obsM n ml fa fn el xb g = (hookM n ml fa fn el xb).obs s := by
  have e : g = s.heap.get? := funext h
  rw [e] <;> rfl
section
variable {P : Program} {w : World} {K : PySem.W.Frag} {mg : Str → Option Value} {base : Heap} {c m f : Str} {k : Nat} {fd : FuncData} {ps : List Str} {sp : FSpecO}
theorem clsO_of (g : (He.Fa.glo c).ok K = true) (h : (He.Fa.cls c).ok K = true) : ClsO K c := ⟨He.ga K c, He.eqO_ok g, He.cls_ok h⟩
theorem noaO_of (g : (He.Fa.glo c).ok K = true) (h : (He.Fa.noat c f).ok K = true) : NoaO K c f := fun C hC => by
  have := He.eqO_ok g
  rw [this] at hC
  cases hC
  exact He.noat_ok h
theorem mthO_of (g : (He.Fa.glo c).ok K = true) (hc : (He.Fa.cls c).ok K = true) (hm : (He.Fa.meth c m).ok K = true) (F : Fnn P w K mg base (L2.CX P w) k (He.fAd K (c, some m)) fd ps (liftSpO K sp)) (hb : Binds K fd ps []) : MthO P w K mg base c m k sp :=
  ⟨He.ga K c, He.ma K (He.ga K c) m, fd, ps, He.eqO_ok g, He.cls_ok hc, He.meth_ok hm, F, hb⟩
theorem mkO_of (KX : K.In base) (GX : base.Ns mainGlobals mg) (g : (He.Fa.glo c).ok K = true) (hm : (He.Fa.mkr c).ok K = true) (F : Fnn P w K mg base (L2.CX P w) k (He.fAd K (c, some "__init__")) fd ps (liftSpO K sp)) (hb : Binds K fd ps []) : MkO P w K mg base c k sp :=
  ⟨He.ga K c, He.ma K (He.ga K c) "__init__", fd, ps, He.eqO_ok g, He.glo_ok KX GX g, He.mkr_ok hm, F, hb⟩
end
end RT

set_option maxRecDepth 100000
set_option maxHeartbeats 4000000

namespace RT
open PySem PySem.Spec PyProof.Rows L2
theorem GoodO.tt {K : PySem.W.Frag} {W F : Hp} {A : List Addr} {m : M} {os : OS} {σ : L2.St} {H W' : Hp} (G : GoodO K W F A m os σ H W') : @Good Ghost.tt K W' F A m σ H := @Good.regh (gho K os) Ghost.tt _ _ _ _ _ _ _ G.G True.intro
end RT

set_option maxRecDepth 100000
set_option maxHeartbeats 4000000

namespace RT
open PySem PySem.Spec PyProof.Rows L2
variable [Gh : Ghost]
theorem Good.hideD {K : PySem.W.Frag} {W F : Hp} {A : List Addr} {m : M} {σ : L2.St} {H : Hp} {b : Addr} {kvs : List (Key × V)} (G : Good K W F A m σ H) (n : H b = none) : Good K (upd W b (.dK kvs)) F A m σ (upd H b (.dK kvs)) := by
  have nF : F b = none := G.ext.free n
  have nW : W b = none := G.hid.free n
  have up : Same H (upd H b (.dK kvs)) := same_upd n
  refine ⟨G.ext.trans up, fun c o e => ?_, fun c o e => ?_, G.slen, G.sl, G.len, fun k xs e => ?_, G.nd, fun q hq => ?_, Ghost.mono G.gh (SameO.of (same_upd nW)) (Same.refl _) (pre_refl _)⟩
  · by_cases hc : c = b
    · rw [hc, upd_same] at e
      cases e
      rw [hc, upd_same]
    · rw [upd_ne hc] at e ⊢
      exact G.hid c o e
  · by_cases hc : c = b
    · rw [hc]
      exact nF
    · rw [upd_ne hc] at e
      exact G.dj c o e
  · obtain ⟨a, vs, h1, h2, h3, h4, h5⟩ := G.st k xs e
    have ne : a ≠ b := fun z => by rw [z, n] at h2; cases h2
    exact ⟨a, vs, h1, by rw [upd_ne ne]; exact h2, h3, h4, by rw [upd_ne ne]; exact h5⟩
  · obtain ⟨⟨ps, t1, ok⟩, t2, t3⟩ := G.tb q hq
    have ne : q.2 ≠ b := fun z => by rw [z, n] at t1; cases t1
    exact ⟨⟨ps, by rw [upd_ne ne]; exact t1, ok⟩, t2, by rw [upd_ne ne]; exact t3⟩
theorem Good.unhideD {K : PySem.W.Frag} {W W' F F' : Hp} {A A' : List Addr} {m m' : M} {σ σ' : L2.St} {H H' : Hp} (G : Good K W F A m σ H) (G' : Good K W' F' A' m' σ' H') (hW : Same W W') (s : Same F F') (p : A <+: A') : Good K W F' A' m' σ' H' := by
  have wn : ∀ {b : Addr}, W' b = none → W b = none := fun {b} h => by
    cases q : W b with
    | none => rfl
    | some o => rw [hW _ _ q] at h; cases h
  exact ⟨G'.ext, hW.trans G'.hid, fun c o e => G'.dj c o (hW _ _ e), G'.slen, G'.sl, G'.len, fun k xs e => let ⟨a, vs, h1, h2, h3, h4, h5⟩ := G'.st k xs e; ⟨a, vs, h1, h2, h3, h4, wn h5⟩, G'.nd, fun q hq => ⟨(G'.tb q hq).1, (G'.tb q hq).2.1, wn (G'.tb q hq).2.2⟩, Ghost.mono G.gh (SameO.refl _) s p⟩
section
variable {X : Cx} {pos : Pos}
inductive DcC : Expr → Dt → Prop where
  | str {s j p} : DcC (.Constant (.str s) j p) (.str s)
  | int {i j p} : DcC (.Constant (.int i) j p) (.int i)
theorem DcC.pe {e : Expr} {d : Dt} (h : DcC e d) : ∃ v : V, PE X e (tC v) ∧ ∀ (K : PySem.W.Frag) (F : Hp), Rep K F d v := by
  cases h with
  | str => exact ⟨_, pe_str, fun _ _ => rep_str⟩
  | int => exact ⟨_, pe_int, fun _ _ => rep_int⟩
inductive DcL : List (Option Expr) → List Expr → List (Str × Dt) → Prop where
  | nil : DcL [] [] []
  | cons {s j p e d ks vs kvs} (h : DcC e d) (r : DcL ks vs kvs) : DcL (some (.Constant (.str s) j p) :: ks) (e :: vs) ((s, d) :: kvs)
theorem DcL.pps {ks : List (Option Expr)} {vs : List Expr} {kvs : List (Str × Dt)} (h : DcL ks vs kvs) : ∃ (trs : List (TE × TE)) (us : List (Key × V)), PPs X pos ks vs trs ∧ us.map (·.1) = kvs.map (fun q => (Sum.inr q.1 : Key)) ∧ us.length = ks.length ∧ ks.length = vs.length ∧ (ks.all (·.isSome)) = true ∧
    (∀ (K : PySem.W.Frag) (F : Hp) (s : Str), match kvs.lookup s with
      | some d => ∃ v, valV us (Sum.inr s) = some v ∧ Rep K F d v
      | none => valV us (Sum.inr s) = none) ∧ ∀ (σ : L2.St) (H : Hp) (Q : List (V × V) → Hp → Prop), Q (us.map fun kv => (kV kv.1, kv.2)) H → tPairs trs σ H Q := by
  induction h with
  | nil => exact ⟨[], [], pps_nil, rfl, rfl, rfl, rfl, fun K F s => rfl, fun σ H Q q => q⟩
  | @cons s j p e d ks vs kvs h r ih =>
    obtain ⟨trs, us, h1, h2, h3, h4, h5, h6, h7⟩ := ih
    obtain ⟨v, hv, rv⟩ := h.pe (X := X)
    refine ⟨(tC (.str s), tC v) :: trs, (Sum.inr s, v) :: us, pps_cons pe_str hv h1, by simp [h2], by simp [h3], by simp [h4], by simp [h5], fun K F x => ?_, fun σ H Q q => h7 σ H _ q⟩
    by_cases c : x = s
    · subst c
      rw [List.lookup_cons, beq_self_eq_true]
      exact ⟨v, valV_pos rfl, rv K F⟩
    · rw [List.lookup_cons, beq_eq_false_iff_ne.mpr c]
      have n : ¬ ((Sum.inr s : Key) = Sum.inr x) := fun z => c (Sum.inr.inj z).symm
      have := h6 K F x
      dsimp only
      cases q : kvs.lookup x with
      | none =>
        rw [q] at this
        dsimp only at this ⊢
        rw [valV_neg n]
        exact this
      | some d' =>
        rw [q] at this
        dsimp only at this ⊢
        rw [valV_neg n]
        exact this
theorem valV_none {us : List (Key × V)} {k : Key} (h : k ∉ us.map (·.1)) : valV us k = none := by
  induction us with
  | nil => rfl
  | cons p r ih =>
    rw [List.map_cons, List.mem_cons, not_or] at h
    rw [valV_neg (fun z => h.1 z.symm)]
    exact ih h.2
theorem merge_val (j : Key) : ∀ (us acc : List (Key × V)), (us.map (·.1)).Nodup → valV (mergeK acc us) j = match valV us j with
    | some v => some v
    | none => valV acc j
  | [], acc, _ => rfl
  | p :: r, acc, h => by
    rw [List.map_cons, List.nodup_cons] at h
    show valV (mergeK (putK acc p.1 p.2) r) j = _
    rw [merge_val j r _ h.2, valV_put]
    by_cases c : p.1 = j
    · subst c
      rw [valV_none h.1, valV_pos rfl, if_pos rfl]
    · rw [valV_neg c, if_neg (fun z => c z.symm)]
theorem disp_ok {ks : List (Option Expr)} {vs : List Expr} {kvs : List (Str × Dt)} (L : DcL ks vs kvs) (nd : (kvs.map (·.1)).Nodup) (h0 : ks ≠ []) (h15 : ks.length ≤ 15) :
    ∃ ds : List (Key × V), PE X (.Dict ks vs pos) (fun σ H Q => ∀ p, H p = none → Q (.ref p) (upd H p (.dK ds))) ∧ ∀ (K : PySem.W.Frag) (F : Hp) (s : Str), match kvs.lookup s with
      | some d => ∃ v, valV ds (Sum.inr s) = some v ∧ Rep K F d v
      | none => valV ds (Sum.inr s) = none := by
  obtain ⟨trs, us, h1, h2, h3, h4, h5, h6, h7⟩ := L.pps (X := X) (pos := pos)
  have nd' : (us.map (·.1)).Nodup := by
    rw [h2, show (kvs.map fun q => (Sum.inr q.1 : Key)) = (kvs.map (·.1)).map Sum.inr by rw [List.map_map]; rfl]
    exact List.Pairwise.map _ (fun a b h z => h (Sum.inr.inj z)) nd
  have mv : ∀ j, valV (mergeK [] us) j = valV us j := fun j => by
    rw [merge_val j us [] nd']
    cases valV us j <;> rfl
  refine ⟨mergeK [] us, (pe_disp h1 h5 h4 h0 h15).imp fun σ H Q q p np => ?_, fun K F s => ?_⟩
  · refine h7 σ _ _ ⟨upd_same, us, rfl, by omega, ?_⟩
    rw [upd_upd]
    exact q p np
  · have := h6 K F s
    cases e : kvs.lookup s with
    | none =>
      rw [e] at this
      dsimp only at this ⊢
      rw [mv]
      exact this
    | some d =>
      rw [e] at this
      dsimp only at this ⊢
      rw [mv]
      exact this
def dDlit (kvs : List (Str × Dt)) (te : DE) : DE := fun m Q => te m fun v m1 => onS v fun s => ∃ d, kvs.lookup s = some d ∧ Q (.d d) m1
theorem je_dlit {k : Nat} (hr : GRoom k X.A) {ks : List (Option Expr)} {vs : List Expr} {kvs : List (Str × Dt)} {e : Expr} {te : DE} {p2 : Pos} (L : DcL ks vs kvs) (he : JE X e te) (nd : (kvs.map (·.1)).Nodup := by decide) (h0 : ks ≠ [] := by exact List.cons_ne_nil _ _) (h15 : ks.length ≤ 15 := by exact Nat.le_of_ble_eq_true rfl) (hs : NoSl e := by intro _ _; rfl) :
    JE X (.Subscript (.Dict ks vs p2) e pos) (dDlit kvs te) := by
  obtain ⟨ds, hd, hv⟩ := disp_ok (X := X) (pos := p2) L nd h0 h15
  refine (pe_dget (by have := hr.hu; omega) hd he hs).imp fun σ H Q hh => ?_
  obtain ⟨W, F, A, m, Qd, G, h, c⟩ := hh
  intro p np
  have nW : W p = none := G.hid.free np
  refine ⟨upd W p (.dK ds), F, A, m, _, G.hideD np, h, fun F1 A1 v m1 H1 s1 p1 G1 q1 u r1 => ?_⟩
  obtain ⟨s, rfl, d, hk, q⟩ := onS_elim q1
  have ru : u = .str s := repB_str (H := H1) r1
  subst ru
  have hp : H1 p = some (.dK ds) := G1.hid _ _ upd_same
  have := hv X.K F1 s
  rw [hk] at this
  obtain ⟨w, hw, rw_⟩ := this
  exact ⟨p, w, rfl, .inl ⟨ds, Sum.inr s, .inl hp, rfl, hw.symm⟩, c F1 A1 (.d d) m1 H1 s1 p1 (G.unhideD G1 (same_upd nW) s1 p1) q w rw_⟩
def dDlget (kvs : List (Str × Dt)) (te tf : DE) : DE := fun m Q => te m fun v m1 => onS v fun s => tf m1 fun w m2 => match kvs.lookup s with
  | some d => Q (.d d) m2
  | none => Q w m2
theorem je_dlget {k : Nat} (hr : GRoom k X.A) {ks : List (Option Expr)} {vs : List Expr} {kvs : List (Str × Dt)} {e f : Expr} {te tf : DE} {p2 apos : Pos} (L : DcL ks vs kvs) (he : JE X e te) (hf : JE X f tf) (M : M2 X (.Dict ks vs p2) "get" apos e f pos) (nd : (kvs.map (·.1)).Nodup := by decide) (h0 : ks ≠ [] := by exact List.cons_ne_nil _ _) (h15 : ks.length ≤ 15 := by exact Nat.le_of_ble_eq_true rfl) :
    JE X (.Call (.Attribute (.Dict ks vs p2) "get" apos) [e, f] [] pos) (dDlget kvs te tf) := by
  obtain ⟨ds, hd, hv⟩ := disp_ok (X := X) (pos := p2) L nd h0 h15
  refine (pe_dget2 (by have := hr.hu; omega) hd he hf M).imp fun σ H Q hh => ?_
  obtain ⟨W, F, A, m, Qd, G, h, c⟩ := hh
  intro p np
  have nW : W p = none := G.hid.free np
  refine ⟨p, rfl, .inl ⟨ds, .inl upd_same⟩, upd W p (.dK ds), F, A, m, _, G.hideD np, h, fun F1 A1 v m1 H1 s1 p1 G1 q1 u r1 => ?_⟩
  obtain ⟨s, rfl, q1⟩ := onS_elim q1
  have ru : u = .str s := repB_str (H := H1) r1
  subst ru
  refine ⟨_, F1, A1, m1, _, G1, q1, fun F2 A2 w m2 H2 s2 p2' G2 q2 u2 r2 => ?_⟩
  have hp : H2 p = some (.dK ds) := G2.hid _ _ upd_same
  have G3 := G.unhideD G2 (same_upd nW) (s1.trans s2) (pre_trans p1 p2')
  have := hv X.K F2 s
  cases hk : kvs.lookup s with
  | none =>
    rw [hk] at this q2
    dsimp only at this q2
    refine ⟨none, .inl ⟨ds, Sum.inr s, .inl hp, rfl, this.symm⟩, ?_⟩
    exact c F2 A2 w m2 H2 (s1.trans s2) (pre_trans p1 p2') G3 q2 u2 r2
  | some d =>
    rw [hk] at this q2
    dsimp only at this q2
    obtain ⟨x, hx, rx⟩ := this
    refine ⟨some x, .inl ⟨ds, Sum.inr s, .inl hp, rfl, hx.symm⟩, ?_⟩
    exact c F2 A2 (.d d) m2 H2 (s1.trans s2) (pre_trans p1 p2') G3 q2 x rx
end
end RT

set_option maxRecDepth 100000
set_option maxHeartbeats 4000000

namespace RT
open PySem PySem.Spec PyProof.Rows L2
section
variable {X : Cx} {Wx : WX} {pos : Pos}
end
end RT

set_option maxRecDepth 100000
set_option maxHeartbeats 4000000
namespace PG
open PySem PySem.Spec PyProof.Rows L2 RT

def w_common_divisor : DS := (dSeq (dSet 2 (dBi bAbs (dCons (dVar 0) dNil)))
  (dSeq (dSet 3 (dBi bAbs (dCons (dVar 1) dNil)))
  (dSeq (dWhile (dTest (dOp rGt (dVar 3) (dC (.int 0))))
  (dPar 2 3 (dCons (dVar 3) (dCons (dOp rMod (dVar 2) (dVar 3)) dNil))))
  (dRet (dVar 2)))))
@[irreducible] def sp_common_divisor : FSpec := spOf false 2 4 w_common_divisor

def w_fraction : DS := (dSeq (dSet 2 (dCall PG.sp_common_divisor [] (dCons (dVar 0) (dCons (dVar 1) dNil))))
  (dSeq (dIfS (dTest (dOp rLt (dVar 1) (dC (.int 0))))
  (dSet 2 (rU rNeg (dVar 2)))
  dNext)
  (dRet (dTup (dCons (dOp rDiv (dVar 0) (dVar 2)) (dCons (dOp rDiv (dVar 1) (dVar 2)) dNil))))))
@[irreducible] def sp_fraction : FSpec := spOf false 2 3 w_fraction

def w_add : DS := (dRet (dCall PG.sp_fraction [] (dCons (dOp rAddA (dOp rMul (dOp rIx (dVar 0) (dC (.int 0))) (dOp rIx (dVar 1) (dC (.int 1)))) (dOp rMul (dOp rIx (dVar 1) (dC (.int 0))) (dOp rIx (dVar 0) (dC (.int 1))))) (dCons (dOp rMul (dOp rIx (dVar 0) (dC (.int 1))) (dOp rIx (dVar 1) (dC (.int 1)))) dNil))))
@[irreducible] def sp_add : FSpec := spOf false 2 2 w_add

def w_negative : DS := (dRet (dTup (dCons (rU rNeg (dOp rIx (dVar 0) (dC (.int 0)))) (dCons (dOp rIx (dVar 0) (dC (.int 1))) dNil))))
@[irreducible] def sp_negative : FSpec := spOf false 1 1 w_negative

def w_subtract : DS := (dRet (dCall PG.sp_add [] (dCons (dVar 0) (dCons (dCall PG.sp_negative [] (dCons (dVar 1) dNil)) dNil))))
@[irreducible] def sp_subtract : FSpec := spOf false 2 2 w_subtract

def w_sign : DS := (dSeq (dIfS (dTest (dOp rGt (dOp rIx (dVar 0) (dC (.int 0))) (dC (.int 0))))
  (dRet (dC (.int 1)))
  dNext)
  (dSeq (dIfS (dTest (dOp rLt (dOp rIx (dVar 0) (dC (.int 0))) (dC (.int 0))))
  (dRet (rU rNeg (dC (.int 1))))
  dNext)
  (dRet (dC (.int 0)))))
@[irreducible] def sp_sign : FSpec := spOf false 1 1 w_sign

def w_compare : DS := (dRet (dCall PG.sp_sign [] (dCons (dCall PG.sp_subtract [] (dCons (dVar 0) (dCons (dVar 1) dNil))) dNil)))
@[irreducible] def sp_compare : FSpec := spOf false 2 2 w_compare

def w_is_less : DS := (dRet (dOp rLt (dCall PG.sp_compare [] (dCons (dVar 0) (dCons (dVar 1) dNil))) (dC (.int 0))))
@[irreducible] def sp_is_less : FSpec := spOf false 2 2 w_is_less

def w__law_cell : DS := (dSeq (dIfS (dTest (dOp rLt (dVar 1) (dBi bLen (dCons (dVar 0) dNil))))
  (dRet (dOp rIx (dVar 0) (dVar 1)))
  dNext)
  (dRet (dC (.int 0))))
@[irreducible] def sp__law_cell : FSpec := spOf false 2 2 w__law_cell

def w__law_digits : DS := (dSeq (dSet 3 (dLstO dNil))
  (dSeq (dFor (dRange2 (dCons (dVar 1) (dCons (dVar 2) dNil))) (.nm 4)
  (dSeq (dSet 5 (dCall PG.sp__law_cell [] (dCons (dVar 0) (dCons (dVar 4) dNil))))
  (dSeq (dIfS (dTest (dOp rLt (dVar 5) (dC (.int 0))))
  (dSet 5 (dOp rSub (dC (.int 1)) (dOp rMul (dC (.int 2)) (dVar 5))))
  dNext)
  (dIfS (dTest (dOp rGe (dVar 5) (dOp rPow (dC (.int 10)) (dC (.int 18)))))
  (dFor (dRange1 (dCons (dC (.int 60)) dNil)) (.nm 6)
  (dIfS (dTest (dOp rGt (dVar 5) (dC (.int 0))))
  (dSeq (dDo (dMeth mAppend (dVar 3) (dCons (dOp rMod (dBi bInt (dCons (dVar 5) dNil)) (dC (.int 1000))) dNil)))
  (dSet 5 (dOp rDiv (dVar 5) (dC (.int 1000)))))
  dNext))
  (dSeq (dSet 7 (dOp rMod (dBi bInt (dCons (dOp rAddA (dOp rAddA (dOp rMul (dVar 5) (dC (.int 48271))) (dOp rMul (dVar 4) (dC (.int 69621)))) (dC (.int 11))) dNil)) (dC (.int 2147483647))))
  (dFor (dRange1 (dCons (dC (.int 12)) dNil)) (.nm 6)
  (dSeq (dSet 7 (dOp rMod (dBi bInt (dCons (dOp rAddA (dOp rAddA (dOp rMul (dVar 7) (dC (.int 16807))) (dOp rMul (dC (.int 7)) (dVar 6))) (dC (.int 1))) dNil)) (dC (.int 2147483647))))
  (dDo (dMeth mAppend (dVar 3) (dCons (dOp rMod (dBi bInt (dCons (dOp rDiv (dVar 7) (dC (.int 997))) dNil)) (dC (.int 1000))) dNil))))))))))
  (dRet (dVar 3))))
@[irreducible] def sp__law_digits : FSpec := spOf false 3 8 w__law_digits

def w__law_draw : DS := (dSeq (dSet 2 (dOp rIx (dVar 0) (dC (.int 1))))
  (dSeq (dSetIx (dOp rAddA (dVar 2) (dC (.int 1))) (dVar 0) (dC (.int 1)))
  (dSeq (dIfS (dTest (dOp rLt (dVar 2) (dBi bLen (dCons (dOp rIx (dVar 0) (dC (.int 0))) dNil))))
  (dRet (dOp rMod (dBi bInt (dCons (dOp rIx (dOp rIx (dVar 0) (dC (.int 0))) (dVar 2)) dNil)) (dVar 1)))
  dNext)
  (dRet (dC (.int 0))))))
@[irreducible] def sp__law_draw : FSpec := spOf false 2 3 w__law_draw

def w__law_divisor : DS := (dSeq (dSet 0 (dBi bAbs (dCons (dVar 0) dNil)))
  (dSeq (dSet 1 (dBi bAbs (dCons (dVar 1) dNil)))
  (dSeq (dFor (dRange1 (dCons (dC (.int 400)) dNil)) (.nm 2)
  (dIfS (dTest (dOp rGt (dVar 1) (dC (.int 0))))
  (dPar 0 1 (dCons (dVar 1) (dCons (dOp rMod (dVar 0) (dVar 1)) dNil)))
  dNext))
  (dRet (dVar 0)))))
@[irreducible] def sp__law_divisor : FSpec := spOf false 2 3 w__law_divisor

def w__law_fr : DS := (dSeq (dIfS (dTest (dOp rLt (dVar 1) (dC (.int 0))))
  (dSeq (dSet 0 (dOp rSub (dC (.int 0)) (dVar 0)))
  (dSet 1 (dOp rSub (dC (.int 0)) (dVar 1))))
  dNext)
  (dSeq (dSet 2 (dCall PG.sp__law_divisor [] (dCons (dVar 0) (dCons (dVar 1) dNil))))
  (dRet (dTup (dCons (dOp rDiv (dVar 0) (dVar 2)) (dCons (dOp rDiv (dVar 1) (dVar 2)) dNil))))))
@[irreducible] def sp__law_fr : FSpec := spOf false 2 3 w__law_fr

def w__law_add : DS := (dRet (dCall PG.sp__law_fr [] (dCons (dOp rAddA (dOp rMul (dOp rIx (dVar 0) (dC (.int 0))) (dOp rIx (dVar 1) (dC (.int 1)))) (dOp rMul (dOp rIx (dVar 1) (dC (.int 0))) (dOp rIx (dVar 0) (dC (.int 1))))) (dCons (dOp rMul (dOp rIx (dVar 0) (dC (.int 1))) (dOp rIx (dVar 1) (dC (.int 1)))) dNil))))
@[irreducible] def sp__law_add : FSpec := spOf false 2 2 w__law_add

def w__law_some : DS := (dRet (dCall PG.sp__law_fr [] (dCons (dOp rSub (dCall PG.sp__law_draw [] (dCons (dVar 0) (dCons (dC (.int 13)) dNil))) (dC (.int 6))) (dCons (dOp rIx (dLst (dCons (dC (.int 1)) (dCons (dC (.int 1)) (dCons (dC (.int 1)) (dCons (dC (.int 2)) (dCons (dC (.int 3)) (dCons (dC (.int 4)) dNil))))))) (dCall PG.sp__law_draw [] (dCons (dVar 0) (dCons (dC (.int 6)) dNil)))) dNil))))
@[irreducible] def sp__law_some : FSpec := spOf false 1 1 w__law_some

def w__law_other : DS := (dSeq (dSet 1 (dCall PG.sp__law_some [] (dCons (dVar 0) dNil)))
  (dSeq (dIfS (dTest (dOp rEq (dOp rIx (dVar 1) (dC (.int 0))) (dC (.int 0))))
  (dRet (dTup (dCons (dC (.int 1)) (dCons (dC (.int 2)) dNil))))
  dNext)
  (dRet (dVar 1))))
@[irreducible] def sp__law_other : FSpec := spOf false 1 2 w__law_other

def v_ZERO : Dt := .tup [.int 0, .int 1]

def w__law_stop : DS := (dSeq (dSet 1 (dCall PG.sp__law_draw [] (dCons (dVar 0) (dCons (dC (.int 6)) dNil))))
  (dSeq (dSet 2 (dCall PG.sp__law_some [] (dCons (dVar 0) dNil)))
  (dSeq (dSet 3 (dCall PG.sp__law_add [] (dCons (dVar 2) (dCons (dCall PG.sp__law_fr [] (dCons (dCall PG.sp__law_draw [] (dCons (dVar 0) (dCons (dC (.int 7)) dNil))) (dCons (dC (.int 2)) dNil))) dNil))))
  (dSeq (dIfS (dTest (dOp rEq (dVar 1) (dC (.int 0))))
  (dRet (dTup (dCons (dC (.str ("stop" : Str))) (dCons (dC .non) (dCons (dVar 3) dNil)))))
  dNext)
  (dSeq (dIfS (dTest (dOp rEq (dVar 1) (dC (.int 1))))
  (dRet (dTup (dCons (dC (.str ("stop" : Str))) (dCons (dVar 2) (dCons (dC .non) dNil)))))
  dNext)
  (dSeq (dIfS (dAnd (dTest (dOp rEq (dVar 1) (dC (.int 2)))) (dTest (dOp rEq (dCall PG.sp__law_draw [] (dCons (dVar 0) (dCons (dC (.int 3)) dNil))) (dC (.int 0)))))
  (dRet (dTup (dCons (dC (.str ("stop" : Str))) (dCons (dC .non) (dCons (dC .non) dNil)))))
  dNext)
  (dRet (dTup (dCons (dC (.str ("stop" : Str))) (dCons (dVar 2) (dCons (dVar 3) dNil)))))))))))
@[irreducible] def sp__law_stop : FSpec := spOf false 1 4 w__law_stop

def w__law_element : DS := (dSeq (dSet 1 (dCall PG.sp__law_draw [] (dCons (dVar 0) (dCons (dC (.int 7)) dNil))))
  (dSeq (dIfS (dTest (dOp rLt (dVar 1) (dC (.int 2))))
  (dRet (dTup (dCons (dC (.str ("gap" : Str))) (dCons (dCall PG.sp__law_some [] (dCons (dVar 0) dNil)) dNil))))
  dNext)
  (dSeq (dIfS (dTest (dOp rEq (dVar 1) (dC (.int 2))))
  (dRet (dTup (dCons (dC (.str ("lens" : Str))) (dCons (dCall PG.sp__law_some [] (dCons (dVar 0) dNil)) (dCons (dOp rIx (dLst (dCons (dTup (dCons (dC (.int 0)) (dCons (dC (.int 1)) dNil))) (dCons (dCall PG.sp__law_some [] (dCons (dVar 0) dNil)) dNil))) (dCall PG.sp__law_draw [] (dCons (dVar 0) (dCons (dC (.int 2)) dNil)))) dNil)))))
  dNext)
  (dSeq (dIfS (dTest (dOp rEq (dVar 1) (dC (.int 3))))
  (dRet (dTup (dCons (dC (.str ("prism" : Str))) (dCons (dCall PG.sp__law_some [] (dCons (dVar 0) dNil)) dNil))))
  dNext)
  (dSeq (dIfS (dTest (dOp rEq (dVar 1) (dC (.int 4))))
  (dRet (dTup (dCons (dC (.str ("afocal" : Str))) (dCons (dCall PG.sp__law_other [] (dCons (dVar 0) dNil)) dNil))))
  dNext)
  (dRet (dCall PG.sp__law_stop [] (dCons (dVar 0) dNil))))))))
@[irreducible] def sp__law_element : FSpec := spOf false 1 2 w__law_element

def w__law_train : DS := (dRet (dLc false (dRange1 (dCons (dCall PG.sp__law_draw [] (dCons (dVar 0) (dCons (dOp rAddA (dVar 1) (dC (.int 1))) dNil))) dNil)) (.nm 2) dYes (dCall PG.sp__law_element [] (dCons (dVar 0) dNil)) [2]))
@[irreducible] def sp__law_train : FSpec := spOf false 2 3 w__law_train

def w__law_draw_2 : DS := (dSeq (dSet 2 (dOp rIx (dVar 0) (dC (.int 1))))
  (dSeq (dSetIx (dOp rAddA (dVar 2) (dC (.int 1))) (dVar 0) (dC (.int 1)))
  (dSeq (dIfS (dTest (dOp rLt (dVar 2) (dBi bLen (dCons (dOp rIx (dVar 0) (dC (.int 0))) dNil))))
  (dRet (dOp rMod (dBi bInt (dCons (dOp rIx (dOp rIx (dVar 0) (dC (.int 0))) (dVar 2)) dNil)) (dVar 1)))
  dNext)
  (dRet (dOp rMod (dBi bInt (dCons (dOp rAddA (dOp rMul (dVar 2) (dC (.int 7))) (dC (.int 3))) dNil)) (dVar 1))))))
@[irreducible] def sp__law_draw_2 : FSpec := spOf false 2 3 w__law_draw_2

def w__law_frac : DS := (dSeq (dSet 2 (dBi bAbs (dCons (dVar 0) dNil)))
  (dSeq (dSet 3 (dBi bAbs (dCons (dVar 1) dNil)))
  (dSeq (dWhile (dTest (dOp rGt (dVar 3) (dC (.int 0))))
  (dPar 2 3 (dCons (dVar 3) (dCons (dOp rMod (dBi bInt (dCons (dVar 2) dNil)) (dBi bInt (dCons (dVar 3) dNil))) dNil))))
  (dSeq (dIfS (dTest (dOp rLt (dVar 1) (dC (.int 0))))
  (dSet 2 (rU rNeg (dVar 2)))
  dNext)
  (dRet (dTup (dCons (dOp rDiv (dVar 0) (dVar 2)) (dCons (dOp rDiv (dVar 1) (dVar 2)) dNil))))))))
@[irreducible] def sp__law_frac : FSpec := spOf false 2 4 w__law_frac

def w__law_add_2 : DS := (dRet (dCall PG.sp__law_frac [] (dCons (dOp rAddA (dOp rMul (dOp rIx (dVar 0) (dC (.int 0))) (dOp rIx (dVar 1) (dC (.int 1)))) (dOp rMul (dOp rIx (dVar 1) (dC (.int 0))) (dOp rIx (dVar 0) (dC (.int 1))))) (dCons (dOp rMul (dOp rIx (dVar 0) (dC (.int 1))) (dOp rIx (dVar 1) (dC (.int 1)))) dNil))))
@[irreducible] def sp__law_add_2 : FSpec := spOf false 2 2 w__law_add_2

def w__law_neg : DS := (dRet (dTup (dCons (rU rNeg (dOp rIx (dVar 0) (dC (.int 0)))) (dCons (dOp rIx (dVar 0) (dC (.int 1))) dNil))))
@[irreducible] def sp__law_neg : FSpec := spOf false 1 1 w__law_neg

def w__law_sub_2 : DS := (dRet (dCall PG.sp__law_add_2 [] (dCons (dVar 0) (dCons (dCall PG.sp__law_neg [] (dCons (dVar 1) dNil)) dNil))))
@[irreducible] def sp__law_sub_2 : FSpec := spOf false 2 2 w__law_sub_2

def w__law_fraction : DS := (dRet (dCall PG.sp__law_frac [] (dCons (dOp rSub (dCall PG.sp__law_draw_2 [] (dCons (dVar 0) (dCons (dC (.int 9)) dNil))) (dC (.int 4))) (dCons (dOp rIx (dLst (dCons (dC (.int 1)) (dCons (dC (.int 1)) (dCons (dC (.int 2)) (dCons (dC (.int 3)) dNil))))) (dCall PG.sp__law_draw_2 [] (dCons (dVar 0) (dCons (dC (.int 4)) dNil)))) dNil))))
@[irreducible] def sp__law_fraction : FSpec := spOf false 1 1 w__law_fraction

def w__law_nonzero : DS := (dSeq (dSet 1 (dCall PG.sp__law_fraction [] (dCons (dVar 0) dNil)))
  (dSeq (dIfS (dTest (dOp rEq (dOp rIx (dVar 1) (dC (.int 0))) (dC (.int 0))))
  (dRet (dTup (dCons (dC (.int 1)) (dCons (dC (.int 2)) dNil))))
  dNext)
  (dRet (dVar 1))))
@[irreducible] def sp__law_nonzero : FSpec := spOf false 1 2 w__law_nonzero

def w_number_of : DS := (dRet (dBi bSum (dCons (dLc false (dZipT (dCons (dVar 1) (dCons (dVar 2) dNil))) (.tp [3, 4]) dYes (dOp rMul (dOp rIx (dOp rIx (dVar 0) (dVar 3)) (dC (.int 2))) (dVar 4)) [3, 4]) dNil)))
@[irreducible] def sp_number_of : FSpec := spOf false 3 5 w_number_of

def w__law_other_2 : DS := (dSeq (dSet 2 (dLstO dNil))
  (dSeq (dFor (dAny (dVar 1)) (.nm 3)
  (dSeq (dSet 4 (dCall PG.sp__law_draw_2 [] (dCons (dVar 0) (dCons (dC (.int 6)) dNil))))
  (dIfS (dAnd (dTest (dOp rEq (dVar 4) (dC (.int 0)))) (dTest (dOp rEq (dOp rIx (dVar 3) (dC (.int 0))) (dC (.str ("gap" : Str))))))
  (dSeq (dSet 5 (dCall PG.sp__law_fraction [] (dCons (dVar 0) dNil)))
  (dSeq (dDo (dMeth mAppend (dVar 2) (dCons (dTup (dCons (dC (.str ("gap" : Str))) (dCons (dVar 5) dNil))) dNil)))
  (dDo (dMeth mAppend (dVar 2) (dCons (dTup (dCons (dC (.str ("gap" : Str))) (dCons (dCall PG.sp__law_sub_2 [] (dCons (dOp rIx (dVar 3) (dC (.int 1))) (dCons (dVar 5) dNil))) dNil))) dNil)))))
  (dIfS (dTest (dOp rEq (dVar 4) (dC (.int 1))))
  (dSeq (dSet 6 (dCall PG.sp__law_nonzero [] (dCons (dVar 0) dNil)))
  (dSet 2 (dCat true (dVar 2) (dLst (dCons (dTup (dCons (dC (.str ("lens" : Str))) (dCons (dVar 6) (dCons (dTup (dCons (dC (.int 0)) (dCons (dC (.int 1)) dNil))) dNil)))) (dCons (dTup (dCons (dC (.str ("lens" : Str))) (dCons (dCall PG.sp__law_neg [] (dCons (dVar 6) dNil)) (dCons (dTup (dCons (dC (.int 0)) (dCons (dC (.int 1)) dNil))) dNil)))) (dCons (dVar 3) dNil)))))))
  (dIfS (dAnd (dTest (dOp rEq (dVar 4) (dC (.int 2)))) (dTest (dOp rEq (dOp rIx (dVar 3) (dC (.int 0))) (dC (.str ("stop" : Str))))))
  (dSet 2 (dCat true (dVar 2) (dLst (dCons (dVar 3) (dCons (dVar 3) dNil)))))
  (dIfS (dAnd (dTest (dOp rEq (dVar 4) (dC (.int 3)))) (dAnd (dTest (dOp rEq (dOp rIx (dVar 3) (dC (.int 0))) (dC (.str ("stop" : Str))))) (dTest (dOp rEq (dCall PG.sp__law_draw_2 [] (dCons (dVar 0) (dCons (dC (.int 2)) dNil))) (dC (.int 0))))))
  (dDo (dMeth mAppend (dVar 2) (dCons (dTup (dCons (dC (.str ("stop" : Str))) (dCons (dOp rIx (dVar 3) (dC (.int 1))) (dCons (dC .non) dNil)))) dNil)))
  (dDo (dMeth mAppend (dVar 2) (dCons (dVar 3) dNil)))))))))
  (dRet (dVar 2))))
@[irreducible] def sp__law_other_2 : FSpec := spOf false 2 7 w__law_other_2

def v_FIGURES : Dt := .str ("0123456789" : Str)

def v_PART_MOST : Dt := .int 1000000

def v_LONGEST : Dt := .int 7

def v_ELEMENTS_MOST : Dt := .int 16

def v_STOPS_MOST : Dt := .int 8

def v_WORDS : Dt := .tup [.str ("gap" : Str), .str ("lens" : Str), .str ("prism" : Str), .str ("afocal" : Str), .str ("stop" : Str)]

def w_tokens_of : DS := (dSeq (dSet 1 (dLstO dNil))
  (dSeq (dSet 2 (dC (.str ("" : Str))))
  (dSeq (dFor (dSgn (dOp rAddA (dVar 0) (dC (.str (" " : Str))))) (.nm 3)
  (dIfS (dOr (dTest (dOp rEq (dVar 3) (dC (.str (" " : Str))))) (dTest (dOp rEq (dVar 3) (dC (.str (";" : Str))))))
  (dSeq (dIfS (dTest (dOp rNe (dVar 2) (dC (.str ("" : Str)))))
  (dDo (dMeth mAppend (dVar 1) (dCons (dVar 2) dNil)))
  dNext)
  (dSeq (dSet 2 (dC (.str ("" : Str))))
  (dIfS (dTest (dOp rEq (dVar 3) (dC (.str (";" : Str)))))
  (dDo (dMeth mAppend (dVar 1) (dCons (dVar 3) dNil)))
  dNext)))
  (dAug 2 rAddS (dVar 3))))
  (dRet (dVar 1)))))
@[irreducible] def sp_tokens_of : FSpec := spOf false 1 4 w_tokens_of

def w_natural_of : DS := (dSeq (dIfS (dOr (dTest (dOp rEq (dVar 0) (dC (.str ("" : Str))))) (dOr (dTest (dOp rGt (dBi bLen (dCons (dVar 0) dNil)) (dC PG.v_LONGEST))) (dOr (dTest (dOp rEq (dOp rIx (dVar 0) (dC (.int 0))) (dC (.str ("0" : Str))))) (dNot (dTru (dGx true (dSgn (dVar 0)) (.nm 2) (dOp (rInS false) (dVar 2) (dC PG.v_FIGURES)) [2]))))))
  (dRet (dC .non))
  dNext)
  (dSeq (dSet 1 (dBi bIntS (dCons (dVar 0) dNil)))
  (dSeq (dIfS (dTest (dOp rGt (dVar 1) (dC PG.v_PART_MOST)))
  (dRet (dC .non))
  dNext)
  (dRet (dVar 1)))))
@[irreducible] def sp_natural_of : FSpec := spOf false 1 3 w_natural_of

def w_fraction_of : DS := (dSeq (dIfS (dTest (dOp rEq (dVar 0) (dC (.str ("0" : Str)))))
  (dRet (dC PG.v_ZERO))
  dNext)
  (dSeq (dSet 1 (dVar 0))
  (dSeq (dIfS (dTest (dOp rEq (dSlS (dVar 0) dNoP (dPart (dC (.int 1)))) (dC (.str ("-" : Str)))))
  (dSet 1 (dSlS (dVar 0) (dPart (dC (.int 1))) dNoP))
  dNext)
  (dSeq (dSet 2 (dSplit (dVar 1) (dC (.str ("/" : Str)))))
  (dSeq (dIfS (dTest (dOp rGt (dBi bLen (dCons (dVar 2) dNil)) (dC (.int 2))))
  (dRet (dC .non))
  dNext)
  (dSeq (dSet 3 (dLc false (dAny (dVar 2)) (.nm 5) dYes (dCall PG.sp_natural_of [] (dCons (dVar 5) dNil)) [5]))
  (dSeq (dIfS (dTru (dGx false (dAny (dVar 3)) (.nm 6) (dIsN (dVar 6)) [6]))
  (dRet (dC .non))
  dNext)
  (dSeq (dSet 4 (dOp rIx (dVar 3) (dC (.int 0))))
  (dSeq (dIfS (dTest (dOp rEq (dSlS (dVar 0) dNoP (dPart (dC (.int 1)))) (dC (.str ("-" : Str)))))
  (dSet 4 (rU rNeg (dVar 4)))
  dNext)
  (dRet (dCall PG.sp_fraction [] (dCons (dVar 4) (dCons (dOp rIx (dOp rAddA (dVar 3) (dLst (dCons (dC (.int 1)) dNil))) (dC (.int 1))) dNil)))))))))))))
@[irreducible] def sp_fraction_of : FSpec := spOf false 1 7 w_fraction_of

def w_Reader___init__ : DSO := (xSeq (xFld 0 "Reader" "tokens" (xE fun _ => (dCall PG.sp_tokens_of [] (dCons (dVar 1) dNil))))
  (xFld 0 "Reader" "place" (xE fun _ => (dC (.int 0)))))
@[irreducible] def sp_Reader___init__ : FSpecO := spOO 2 2 w_Reader___init__

def w_Reader_is_next : DSO := (xSeq (xIf (xT fun os => (dTest (dOp rEq (dSl false (dFld os "Reader" "tokens" (dVar 0)) (dPart (dFld os "Reader" "place" (dVar 0))) (dPart (dOp rAddA (dFld os "Reader" "place" (dVar 0)) (dC (.int 1))))) (dLst (dCons (dVar 1) dNil)))))
  (xSeq (xFldAug 0 "Reader" "place" (· + 1))
  (xS fun _ => (dRet (dC (.bl true)))))
  xNext)
  (xS fun _ => (dRet (dC (.bl false)))))
@[irreducible] def sp_Reader_is_next : FSpecO := spOO 2 2 w_Reader_is_next

def w_Reader_token : DSO := (xSeq (xIf (xT fun os => (dTest (dOp rEq (dFld os "Reader" "place" (dVar 0)) (dBi bLen (dCons (dFld os "Reader" "tokens" (dVar 0)) dNil)))))
  (xRaise0 ("EndError" : Str))
  xNext)
  (xSeq (xFldAug 0 "Reader" "place" (· + 1))
  (xS fun os => (dRet (dOp rIx (dFld os "Reader" "tokens" (dVar 0)) (dOp rSub (dFld os "Reader" "place" (dVar 0)) (dC (.int 1))))))))
@[irreducible] def sp_Reader_token : FSpecO := spOO 1 1 w_Reader_token

def w_Reader_number : DSO := (xSeq (xSet 1 (xCall (spUp PG.sp_fraction_of) (xCons (xMeth "Reader" "token" PG.sp_Reader_token (xE fun _ => (dVar 0)) xNil) xNil)))
  (xSeq (xIf (xT fun _ => (dTest (dIsN (dVar 1))))
  (xRaise ("TokenError" : Str) (xE fun os => (dFld os "Reader" "place" (dVar 0))))
  xNext)
  (xS fun _ => (dRet (dVar 1)))))
@[irreducible] def sp_Reader_number : FSpecO := spOO 1 2 w_Reader_number

def w_Reader_stop : DSO := (xSeq (xS fun _ => (dSet 1 (dC .non)))
  (xSeq (xS fun _ => (dSet 2 (dC .non)))
  (xSeq (xIf (xTru (xMeth "Reader" "is_next" PG.sp_Reader_is_next (xE fun _ => (dVar 0)) (xA fun _ => (dCons (dC (.str ("from" : Str))) dNil))))
  (xSet 1 (xMeth "Reader" "number" PG.sp_Reader_number (xE fun _ => (dVar 0)) xNil))
  xNext)
  (xSeq (xIf (xTru (xMeth "Reader" "is_next" PG.sp_Reader_is_next (xE fun _ => (dVar 0)) (xA fun _ => (dCons (dC (.str ("to" : Str))) dNil))))
  (xSet 2 (xMeth "Reader" "number" PG.sp_Reader_number (xE fun _ => (dVar 0)) xNil))
  xNext)
  (xS fun _ => (dRet (dTup (dCons (dC (.str ("stop" : Str))) (dCons (dVar 1) (dCons (dVar 2) dNil))))))))))
@[irreducible] def sp_Reader_stop : FSpecO := spOO 1 3 w_Reader_stop

def w_Reader_element : DSO := (xSeq (xSet 1 (xMeth "Reader" "token" PG.sp_Reader_token (xE fun _ => (dVar 0)) xNil))
  (xSeq (xIf (xT fun _ => (dTest (dOp rNotInT (dVar 1) (dC PG.v_WORDS))))
  (xRaise ("TokenError" : Str) (xE fun os => (dFld os "Reader" "place" (dVar 0))))
  xNext)
  (xSeq (xIf (xT fun _ => (dTest (dOp rEq (dVar 1) (dC (.str ("stop" : Str))))))
  (xRet (xMeth "Reader" "stop" PG.sp_Reader_stop (xE fun _ => (dVar 0)) xNil))
  xNext)
  (xSeq (xSet 2 (xMeth "Reader" "number" PG.sp_Reader_number (xE fun _ => (dVar 0)) xNil))
  (xSeq (xS fun _ => (dIfS (dTest (dOp rNe (dVar 1) (dC (.str ("lens" : Str)))))
  (dRet (dTup (dCons (dVar 1) (dCons (dVar 2) dNil))))
  dNext))
  (xSeq (xS fun _ => (dSet 3 (dC PG.v_ZERO)))
  (xSeq (xIf (xTru (xMeth "Reader" "is_next" PG.sp_Reader_is_next (xE fun _ => (dVar 0)) (xA fun _ => (dCons (dC (.str ("at" : Str))) dNil))))
  (xSet 3 (xMeth "Reader" "number" PG.sp_Reader_number (xE fun _ => (dVar 0)) xNil))
  xNext)
  (xS fun _ => (dRet (dTup (dCons (dVar 1) (dCons (dVar 2) (dCons (dVar 3) dNil)))))))))))))
@[irreducible] def sp_Reader_element : FSpecO := spOO 1 4 w_Reader_element

def w_Reader_train : DSO := (xSeq (xS fun os => (dIfS (dNot (dTru (dFld os "Reader" "tokens" (dVar 0))))
  (dRet (dLst dNil))
  dNext))
  (xSeq (xSet 1 (xLstO (xCons (xMeth "Reader" "element" PG.sp_Reader_element (xE fun _ => (dVar 0)) xNil) xNil)))
  (xSeq (xWhile (xT fun os => (dTest (dOp rLt (dFld os "Reader" "place" (dVar 0)) (dBi bLen (dCons (dFld os "Reader" "tokens" (dVar 0)) dNil)))))
  (xSeq (xIf (xNot (xTru (xMeth "Reader" "is_next" PG.sp_Reader_is_next (xE fun _ => (dVar 0)) (xA fun _ => (dCons (dC (.str (";" : Str))) dNil)))))
  (xRaise ("TokenError" : Str) (xE fun os => (dOp rAddA (dFld os "Reader" "place" (dVar 0)) (dC (.int 1)))))
  xNext)
  (xDo (xApp 1 (xCons (xMeth "Reader" "element" PG.sp_Reader_element (xE fun _ => (dVar 0)) xNil) xNil)))))
  (xS fun _ => (dRet (dVar 1))))))
@[irreducible] def sp_Reader_train : FSpecO := spOO 1 2 w_Reader_train

def w_is_good : DS := (dSeq (dIfS (dTest (dOp rEq (dOp rIx (dVar 0) (dC (.int 0))) (dC (.str ("afocal" : Str)))))
  (dRet (dOp rNe (dOp rIx (dVar 0) (dC (.int 1))) (dC PG.v_ZERO)))
  dNext)
  (dSeq (dIfS (dAnd (dTest (dOp rEq (dOp rIx (dVar 0) (dC (.int 0))) (dC (.str ("stop" : Str))))) (dAnd (dTest (dNotN (dOp rIx (dVar 0) (dC (.int 1))))) (dTest (dNotN (dOp rIx (dVar 0) (dC (.int 2)))))))
  (dRet (dNotV (dCall PG.sp_is_less [] (dCons (dOp rIx (dVar 0) (dC (.int 2))) (dCons (dOp rIx (dVar 0) (dC (.int 1))) dNil)))))
  dNext)
  (dRet (dC (.bl true)))))
@[irreducible] def sp_is_good : FSpec := spOf false 1 1 w_is_good

def w_parse_train : DSO := (xSeq (xSet 1 (xMeth "Reader" "train" PG.sp_Reader_train (xMake "Reader" PG.sp_Reader___init__ (xA fun _ => (dCons (dVar 0) dNil))) xNil))
  (xSeq (xS fun _ => (dSet 2 (dLc false (dAny (dVar 1)) (.nm 3) (dTest (dOp rEq (dOp rIx (dVar 3) (dC (.int 0))) (dC (.str ("stop" : Str))))) (dVar 3) [3])))
  (xSeq (xIf (xT fun _ => (dOr (dTest (dOp rGt (dBi bLen (dCons (dVar 1) dNil)) (dC PG.v_ELEMENTS_MOST))) (dOr (dTest (dOp rGt (dBi bLen (dCons (dVar 2) dNil)) (dC PG.v_STOPS_MOST))) (dNot (dTru (dGx true (dAny (dVar 1)) (.nm 3) (dCall PG.sp_is_good [] (dCons (dVar 3) dNil)) [3]))))))
  (xRaise0 ("BadTrain" : Str))
  xNext)
  (xS fun _ => (dRet (dVar 1))))))
@[irreducible] def sp_parse_train : FSpecO := spOO 1 4 w_parse_train

def w__law_figures : DS := (dSeq (dIfS (dOr (dTest (dOp rEq (dBi bLen (dCons (dVar 0) dNil)) (dC (.int 0)))) (dTest (dOp rEq (dOp rIx (dVar 0) (dC (.int 0))) (dC (.str ("0" : Str))))))
  (dRet (dC (.bl false)))
  dNext)
  (dSeq (dFor (dSgn (dVar 0)) (.nm 1)
  (dIfS (dTest (dOp (rInS true) (dVar 1) (dC (.str ("0123456789" : Str)))))
  (dRet (dC (.bl false)))
  dNext))
  (dRet (dOrV (dOp rLt (dBi bLen (dCons (dVar 0) dNil)) (dC (.int 7))) (dOp rEq (dVar 0) (dC (.str ("1000000" : Str))))))))
@[irreducible] def sp__law_figures : FSpec := spOf false 1 2 w__law_figures

def w__law_is_number : DS := (dSeq (dIfS (dTest (dOp rEq (dVar 0) (dC (.str ("0" : Str)))))
  (dRet (dC (.bl true)))
  dNext)
  (dSeq (dIfS (dTest (dOp rEq (dSlS (dVar 0) dNoP (dPart (dC (.int 1)))) (dC (.str ("-" : Str)))))
  (dSet 0 (dSlS (dVar 0) (dPart (dC (.int 1))) dNoP))
  dNext)
  (dSeq (dSet 1 (dSplit (dVar 0) (dC (.str ("/" : Str)))))
  (dSeq (dIfS (dTest (dOp rGt (dBi bLen (dCons (dVar 1) dNil)) (dC (.int 2))))
  (dRet (dC (.bl false)))
  dNext)
  (dSeq (dFor (dAny (dVar 1)) (.nm 2)
  (dIfS (dNot (dTru (dCall PG.sp__law_figures [] (dCons (dVar 2) dNil))))
  (dRet (dC (.bl false)))
  dNext))
  (dRet (dC (.bl true))))))))
@[irreducible] def sp__law_is_number : FSpec := spOf false 1 3 w__law_is_number

def w__law_next : DS := (dSeq (dIfS (dTest (dOp rEq (dVar 0) (dC (.str ("element" : Str)))))
  (dRet (dDlget [(("gap" : Str), .str ("one" : Str)), (("prism" : Str), .str ("one" : Str)), (("afocal" : Str), .str ("one" : Str)), (("lens" : Str), .str ("power" : Str)), (("stop" : Str), .str ("stop" : Str))] (dVar 1) (dC (.str ("" : Str)))))
  dNext)
  (dSeq (dIfS (dTest (dOp (rIn false) (dVar 0) (dLst (dCons (dC (.str ("one" : Str))) (dCons (dC (.str ("power" : Str))) (dCons (dC (.str ("center" : Str))) (dCons (dC (.str ("lower" : Str))) (dCons (dC (.str ("upper" : Str))) dNil))))))))
  (dSeq (dIfS (dNot (dTru (dCall PG.sp__law_is_number [] (dCons (dVar 1) dNil))))
  (dRet (dC (.str ("" : Str))))
  dNext)
  (dRet (dDlit [(("one" : Str), .str ("end" : Str)), (("power" : Str), .str ("lens" : Str)), (("center" : Str), .str ("end" : Str)), (("lower" : Str), .str ("low" : Str)), (("upper" : Str), .str ("end" : Str))] (dVar 0))))
  dNext)
  (dSeq (dIfS (dTest (dOp rEq (dVar 1) (dC (.str (";" : Str)))))
  (dRet (dC (.str ("element" : Str))))
  dNext)
  (dSeq (dIfS (dAnd (dTest (dOp rEq (dVar 0) (dC (.str ("lens" : Str))))) (dTest (dOp rEq (dVar 1) (dC (.str ("at" : Str))))))
  (dRet (dC (.str ("center" : Str))))
  dNext)
  (dSeq (dIfS (dAnd (dTest (dOp rEq (dVar 0) (dC (.str ("stop" : Str))))) (dTest (dOp rEq (dVar 1) (dC (.str ("from" : Str))))))
  (dRet (dC (.str ("lower" : Str))))
  dNext)
  (dSeq (dIfS (dAnd (dTest (dOp (rIn false) (dVar 0) (dLst (dCons (dC (.str ("stop" : Str))) (dCons (dC (.str ("low" : Str))) dNil))))) (dTest (dOp rEq (dVar 1) (dC (.str ("to" : Str))))))
  (dRet (dC (.str ("upper" : Str))))
  dNext)
  (dRet (dC (.str ("" : Str))))))))))
@[irreducible] def sp__law_next : FSpec := spOf false 2 2 w__law_next

def w__law_due_7 : DS := (dSeq (dIfS (dTest (dOp rEq (dBi bLen (dCons (dVar 0) dNil)) (dC (.int 0))))
  (dRet (dC (.int 0)))
  dNext)
  (dSeq (dSet 1 (dC (.str ("element" : Str))))
  (dSeq (dFor (dRange1 (dCons (dBi bLen (dCons (dVar 0) dNil)) dNil)) (.nm 2)
  (dSeq (dSet 1 (dCall PG.sp__law_next [] (dCons (dVar 1) (dCons (dOp rIx (dVar 0) (dVar 2)) dNil))))
  (dIfS (dTest (dOp rEq (dVar 1) (dC (.str ("" : Str)))))
  (dRet (dOp rAddA (dVar 2) (dC (.int 1))))
  dNext)))
  (dSeq (dIfS (dTest (dOp (rIn false) (dVar 1) (dLst (dCons (dC (.str ("element" : Str))) (dCons (dC (.str ("one" : Str))) (dCons (dC (.str ("power" : Str))) (dCons (dC (.str ("center" : Str))) (dCons (dC (.str ("lower" : Str))) (dCons (dC (.str ("upper" : Str))) dNil)))))))))
  (dRet (rU rNeg (dC (.int 1))))
  dNext)
  (dRet (dC (.int 0)))))))
@[irreducible] def sp__law_due_7 : FSpec := spOf false 1 3 w__law_due_7

def w__law_told_2 : DSO := (xSeq (xTry
  (xDo (xCall PG.sp_parse_train (xA fun _ => (dCons (dVar 0) dNil)))) 1
  [(("EndError" : Str), (fun a bd os => (dSeq (dIfS (dTru (dIsX os 1 ("EndError" : Str) a bd false))
  (dRet (fun _ _ => False))
  dNext)
  (dSeq (dIfS (dTru (dIsX os 1 ("EndError" : Str) a bd true))
  (dRet (rU rNeg (dC (.int 1))))
  dNext)
  (dSeq (dIfS (dTru (dIsX os 1 ("EndError" : Str) a bd false))
  (dRet (dC (.int 0)))
  dNext)
  (dRet (rU rNeg (dC (.int 9))))))))), (("TokenError" : Str), (fun a bd os => (dSeq (dIfS (dTru (dIsX os 1 ("TokenError" : Str) a bd true))
  (dRet (dXf os 1 ("TokenError" : Str) a bd))
  dNext)
  (dSeq (dIfS (dTru (dIsX os 1 ("TokenError" : Str) a bd false))
  (dRet (rU rNeg (dC (.int 1))))
  dNext)
  (dSeq (dIfS (dTru (dIsX os 1 ("TokenError" : Str) a bd false))
  (dRet (dC (.int 0)))
  dNext)
  (dRet (rU rNeg (dC (.int 9))))))))), (("BadTrain" : Str), (fun a bd os => (dSeq (dIfS (dTru (dIsX os 1 ("BadTrain" : Str) a bd false))
  (dRet (fun _ _ => False))
  dNext)
  (dSeq (dIfS (dTru (dIsX os 1 ("BadTrain" : Str) a bd false))
  (dRet (rU rNeg (dC (.int 1))))
  dNext)
  (dSeq (dIfS (dTru (dIsX os 1 ("BadTrain" : Str) a bd true))
  (dRet (dC (.int 0)))
  dNext)
  (dRet (rU rNeg (dC (.int 9)))))))))])
  (xS fun _ => (dRet (dC (.int 0)))))
@[irreducible] def sp__law_told_2 : FSpecO := spOO 1 2 w__law_told_2

def w_law_47 : DS := (dSeq (dSet 1 (dLstO (dCons (dCall PG.sp__law_digits [] (dCons (dVar 0) (dCons (dC (.int 0)) (dCons (dC (.int 63)) dNil)))) (dCons (dC (.int 0)) dNil))))
  (dSeq (dSet 2 (dLst dNil))
  (dSeq (dFor (dRange1 (dCons (dC (.int 8)) dNil)) (.nm 3)
  (dSeq (dSet 4 (dLst (dCons (dC (.str (";" : Str))) (dCons (dC (.str ("gap" : Str))) (dCons (dC (.str ("lens" : Str))) (dCons (dC (.str ("prism" : Str))) (dCons (dC (.str ("afocal" : Str))) (dCons (dC (.str ("stop" : Str))) (dCons (dC (.str ("from" : Str))) (dCons (dC (.str ("to" : Str))) (dCons (dC (.str ("at" : Str))) (dCons (dC (.str ("1" : Str))) (dCons (dC (.str ("-2/3" : Str))) (dCons (dC (.str ("0" : Str))) (dCons (dC (.str ("1000000" : Str))) dNil)))))))))))))))
  (dSeq (dSet 4 (dOp rAddA (dVar 4) (dLst (dCons (dC (.str ("00" : Str))) (dCons (dC (.str ("-0" : Str))) (dCons (dC (.str ("+1" : Str))) (dCons (dC (.str ("1/0" : Str))) (dCons (dC (.str ("1/" : Str))) (dCons (dC (.str ("2/3/4" : Str))) (dCons (dC (.str ("1000001" : Str))) (dCons (dC (.str ("Gap" : Str))) (dCons (dC (.str ("0/5" : Str))) (dCons (dC (.str ("-" : Str))) (dCons (dC (.str ("x" : Str))) (dCons (dC (.str ("1" : Str))) dNil)))))))))))))))
  (dSeq (dSet 5 (dOp rIx (dVar 4) (dCall PG.sp__law_draw [] (dCons (dVar 1) (dCons (dC (.int 25)) dNil)))))
  (dSeq (dSet 6 (dCall PG.sp__law_draw [] (dCons (dVar 1) (dCons (dC (.int 4)) dNil))))
  (dSeq (dIfS (dTest (dOp rEq (dVar 6) (dC (.int 0))))
  (dSeq (dSet 2 (dOp rAddA (dVar 2) (dLst (dCons (dC (.str ("gap" : Str))) (dCons (dC (.str ("1" : Str))) (dCons (dC (.str (";" : Str))) (dCons (dC (.str ("lens" : Str))) (dCons (dC (.str ("2" : Str))) (dCons (dC (.str ("at" : Str))) (dCons (dC (.str ("-1" : Str))) (dCons (dC (.str (";" : Str))) (dCons (dC (.str ("stop" : Str))) (dCons (dC (.str ("from" : Str))) (dCons (dC (.str ("0" : Str))) (dCons (dC (.str ("to" : Str))) (dCons (dC (.str ("1" : Str))) dNil))))))))))))))))
  (dSet 2 (dSl false (dVar 2) dNoP (dPart (dCall PG.sp__law_draw [] (dCons (dVar 1) (dCons (dOp rAddA (dBi bLen (dCons (dVar 2) dNil)) (dC (.int 1))) dNil)))))))
  (dIfS (dAnd (dTest (dOp rEq (dVar 6) (dC (.int 1)))) (dTest (dOp rGt (dBi bLen (dCons (dVar 2) dNil)) (dC (.int 0)))))
  (dSeq (dSet 7 (dCall PG.sp__law_draw [] (dCons (dVar 1) (dCons (dBi bLen (dCons (dVar 2) dNil)) dNil))))
  (dSet 2 (dOp rAddA (dOp rAddA (dSl false (dVar 2) dNoP (dPart (dVar 7))) (dLst (dCons (dVar 5) dNil))) (dSl false (dVar 2) (dPart (dOp rAddA (dVar 7) (dCall PG.sp__law_draw [] (dCons (dVar 1) (dCons (dC (.int 2)) dNil))))) dNoP))))
  (dSet 2 (dOp rAddA (dVar 2) (dLst (dCons (dVar 5) dNil))))))
  (dSeq (dSet 8 (dCall (spBr false PG.sp__law_told_2) [] (dCons (dJoin (dC (.str (" " : Str))) (dVar 2)) dNil)))
  (dSeq (dIfS (dOr (dTest (dOp rNe (dVar 8) (dCall PG.sp__law_due_7 [] (dCons (dVar 2) dNil)))) (dTru (dIsi .bool (dVar 8))))
  (dRet (dC (.bl false)))
  dNext)
  (dIfS (dTest (dOp rGt (dVar 8) (dC (.int 0))))
  (dSet 2 (dSl false (dVar 2) dNoP (dPart (dOp rSub (dVar 8) (dC (.int 1))))))
  dNext)))))))))
  (dRet (dC (.bl true))))))
@[irreducible] def sp_law_47 : FSpec := spOf false 1 9 w_law_47

end PG

set_option maxRecDepth 100000
set_option maxHeartbeats 4000000
namespace PG
open PySem PySem.Spec PyProof.Rows L2 RT
theorem abs_eq (a : Int) : (if a < 0 then -a else a) = (a.natAbs : Int) := by
  split <;> omega
theorem gcd_ok {a b : Int} {st : List Cell} {Q : Vl → List Cell → Prop} (h : Q (.d (.int (Int.gcd a b : Int))) st) : sp_common_divisor [.d (.int a), .d (.int b)] st Q := by
  unfold sp_common_divisor
  refine ⟨rfl, ?_⟩
  refine ⟨fun n m => ∃ x y : Nat, m = ⟨[some (.d (.int a)), some (.d (.int b)), some (.d (.int x)), some (.d (.int y))], st⟩ ∧ n = y ∧ Nat.gcd x y = Int.gcd a b, ⟨b.natAbs, a.natAbs, b.natAbs, ?_, rfl, rfl⟩, ?_⟩
  · rw [← abs_eq a, ← abs_eq b]
    rfl
  · rintro y m ⟨x, _, rfl, rfl, hg⟩
    refine ⟨trivial, ?_⟩
    show if (decide ((0 : Int) < y)) = true then _ else _
    by_cases hy : (0 : Int) < y
    · rw [if_pos (decide_eq_true hy)]
      refine ⟨by omega, ?_⟩
      refine ⟨x % y, Nat.mod_lt _ (by omega), y, x % y, ?_, rfl, ?_⟩
      · rw [Int.natCast_emod, ← Int.fmod_eq_emod_of_nonneg _ (by omega)]
        rfl
      · rw [← hg, Nat.gcd_comm x y, Nat.gcd_rec y x, Nat.gcd_comm]
    · rw [if_neg (by simp; omega)]
      have e : y = 0 := by omega
      subst e
      rw [Nat.gcd_zero_right] at hg
      show Q (.d (.int x)) (st.take st.length)
      rw [List.take_length, hg]
      exact h

theorem ret_ok {kp : Bool} {st : List Cell} {Q : Vl → List Cell → Prop} {x : Dt} {sl : List (Option Vl)} (h : Q (.d x) st) : retD kp st.length Q (.d x) ⟨sl, st⟩ := by
  show Q (.d x) (st.take st.length)
  rw [List.take_length]
  exact h
theorem tk {st : List Cell} {Q : Vl → List Cell → Prop} {v : Vl} (h : Q v st) : Q v (st.take st.length) := by
  rw [List.take_length]
  exact h
def fr (q : Rat) : Dt := .tup [.int q.num, .int q.den]
def zb (q : Rat) : Nat := max q.num.natAbs.log2 q.den.log2 + 2
theorem lineN {n : Nat} (h : Nat.ble n 1000 = true) : n ≤ sizeLine := Nat.le_trans (Nat.le_of_ble_eq_true h) (by decide)
theorem sign_self (d : Int) : d.sign * d = (d.natAbs : Int) := by
  rcases Int.lt_trichotomy d 0 with h | h | h
  · rw [Int.sign_eq_neg_one_of_neg h]
    omega
  · subst h
    rfl
  · rw [Int.sign_eq_one_of_pos h]
    omega
theorem sgn_div {n g s : Int} (hg : g ≠ 0) (h : g ∣ n) (hs : s = 1 ∨ s = -1) : n.fdiv (s * g) = s * n / g := by
  obtain ⟨k, rfl⟩ := h
  rcases hs with rfl | rfl
  · rw [Int.one_mul, Int.one_mul, Int.mul_fdiv_cancel_left _ hg, Int.mul_ediv_cancel_left _ hg]
  · rw [show g * k = (-1 * g) * (-k) by rw [Int.neg_one_mul, Int.neg_mul_neg], Int.mul_fdiv_cancel_left _ (by omega), show -1 * (-1 * g * -k) = g * (-k) by rw [Int.neg_one_mul, Int.neg_one_mul, Int.neg_mul, Int.neg_neg], Int.mul_ediv_cancel_left _ hg]
theorem fraction_ok {n d : Int} {st : List Cell} {Q : Vl → List Cell → Prop} (hd : d ≠ 0) (h : Q (.d (fr (Rat.divInt n d))) st) : sp_fraction [.d (.int n), .d (.int d)] st Q := by
  unfold sp_fraction
  refine ⟨rfl, ?_⟩
  refine gcd_ok ?_
  have hg : (Int.gcd n d : Int) ≠ 0 := by
    have : Int.gcd n d ≠ 0 := fun e => hd (Int.gcd_eq_zero_iff.mp e).2
    omega
  have hn : (Int.gcd n d : Int) ∣ n := Int.gcd_dvd_left ..
  have hd' : (Int.gcd n d : Int) ∣ d := Int.gcd_dvd_right ..
  have e1 : (Rat.divInt n d).num = d.sign * n / Int.gcd n d := by rw [Rat.num_divInt, Int.gcd_comm]
  have e2 : (((Rat.divInt n d).den : Nat) : Int) = d.sign * d / Int.gcd n d := by
    rw [Rat.den_divInt, if_neg hd, Int.natCast_ediv, Int.gcd_comm, sign_self]
  have fin : ∀ s : Int, (s = 1 ∨ s = -1) → s = d.sign → s * (Int.gcd n d : Int) ≠ 0 ∧ s * (Int.gcd n d : Int) ≠ 0 ∧ Q (.d (.tup [.int (n.fdiv (s * Int.gcd n d)), .int (d.fdiv (s * Int.gcd n d))])) st := fun s hs e => by
    refine ⟨by rcases hs with rfl | rfl <;> omega, by rcases hs with rfl | rfl <;> omega, ?_⟩
    rw [sgn_div hg hn hs, sgn_div hg hd' hs, e, ← e1, ← e2]
    exact h
  refine ⟨trivial, ?_⟩
  show if (decide (d < 0)) = true then _ else _
  by_cases hs : d < 0
  · rw [if_pos (decide_eq_true hs)]
    obtain ⟨a, b, c⟩ := fin (-1) (.inr rfl) (Int.sign_eq_neg_one_of_neg hs).symm
    rw [Int.neg_one_mul] at a b c
    exact ⟨a, b, lineN rfl, tk c⟩
  · rw [if_neg (by simp; omega)]
    obtain ⟨a, b, c⟩ := fin 1 (.inl rfl) (Int.sign_eq_one_of_pos (by omega)).symm
    rw [Int.one_mul] at a b c
    exact ⟨a, b, lineN rfl, tk c⟩

theorem log2_mul_le {a b : Nat} : (a * b).log2 ≤ a.log2 + b.log2 + 1 := by
  by_cases ha : a = 0
  · subst ha
    simp
  by_cases hb : b = 0
  · subst hb
    simp
  have h1 := Nat.lt_log2_self (n := a)
  have h2 := Nat.lt_log2_self (n := b)
  have h3 : a * b < 2 ^ (a.log2 + 1 + (b.log2 + 1)) := by
    rw [Nat.pow_add]
    exact Nat.mul_lt_mul'' h1 h2
  have h4 := (Nat.log2_lt (Nat.mul_ne_zero ha hb)).mpr h3
  omega
theorem log2_mono {a b : Nat} (h : a ≤ b) : a.log2 ≤ b.log2 := by
  by_cases ha : a = 0
  · subst ha
    simp
  have := Nat.lt_log2_self (n := b)
  have h4 := (Nat.log2_lt ha).mpr (Nat.lt_of_le_of_lt h this)
  omega
theorem log2_add_le {a b : Nat} : (a + b).log2 ≤ max a.log2 b.log2 + 1 := by
  have h1 : a + b ≤ 2 * max a b := by omega
  have h2 := log2_mono h1
  have h3 : (2 * max a b).log2 ≤ (max a b).log2 + 1 := by
    by_cases h : max a b = 0
    · rw [h]
      simp
    · rw [Nat.log2_two_mul h]
      exact Nat.le_refl _
  have h4 : (max a b).log2 ≤ max a.log2 b.log2 := by
    by_cases h : a ≤ b
    · rw [Nat.max_eq_right h]
      omega
    · rw [Nat.max_eq_left (by omega)]
      omega
  omega
theorem zb_divInt {n d : Int} (hd : d ≠ 0) : zb (Rat.divInt n d) ≤ max n.natAbs.log2 d.natAbs.log2 + 2 := by
  unfold zb
  have h1 : (Rat.divInt n d).num.natAbs ≤ n.natAbs := by
    rw [Rat.num_divInt]
    have : (d.sign * n / (d.gcd n : Int)).natAbs ≤ (d.sign * n).natAbs := Int.natAbs_ediv_le_natAbs ..
    rw [Int.natAbs_mul] at this
    have hs : d.sign.natAbs = 1 := by
      rcases Int.lt_or_gt_of_ne hd with h | h
      · rw [Int.sign_eq_neg_one_of_neg h]
        rfl
      · rw [Int.sign_eq_one_of_pos h]
        rfl
    rw [hs, Nat.one_mul] at this
    exact this
  have h2 : (Rat.divInt n d).den ≤ d.natAbs := by
    rw [Rat.den_divInt, if_neg hd]
    exact Nat.div_le_self ..
  have := log2_mono h1
  have := log2_mono h2
  omega
theorem zb_num (q : Rat) : q.num.natAbs.log2 + 2 ≤ zb q := by
  unfold zb
  omega
theorem zb_den (q : Rat) : q.den.log2 + 2 ≤ zb q := by
  unfold zb
  omega
theorem zb_add (x y : Rat) : zb (x + y) ≤ zb x + zb y := by
  have h := zb_divInt (n := x.num * y.den + y.num * x.den) (d := ((x.den * y.den : Nat) : Int)) (by
    have := x.den_nz
    have := y.den_nz
    have : x.den * y.den ≠ 0 := Nat.mul_ne_zero (by assumption) (by assumption)
    omega)
  rw [Rat.divInt_ofNat, ← Rat.add_def'] at h
  have hx1 := zb_num x
  have hx2 := zb_den x
  have hy1 := zb_num y
  have hy2 := zb_den y
  have m1 : (x.num * y.den).natAbs.log2 ≤ x.num.natAbs.log2 + y.den.log2 + 1 := by
    rw [Int.natAbs_mul, Int.natAbs_natCast]
    exact log2_mul_le
  have m2 : (y.num * x.den).natAbs.log2 ≤ y.num.natAbs.log2 + x.den.log2 + 1 := by
    rw [Int.natAbs_mul, Int.natAbs_natCast]
    exact log2_mul_le
  have m3 : (x.num * y.den + y.num * x.den).natAbs.log2 ≤ max (x.num * y.den).natAbs.log2 (y.num * x.den).natAbs.log2 + 1 :=
    Nat.le_trans (log2_mono (Int.natAbs_add_le ..)) log2_add_le
  have m4 : (((x.den * y.den : Nat) : Int)).natAbs.log2 ≤ x.den.log2 + y.den.log2 + 1 := by
    rw [Int.natAbs_natCast]
    exact log2_mul_le
  omega
theorem zb_mul (x y : Rat) : zb (x * y) ≤ zb x + zb y := by
  have h := zb_divInt (n := x.num * y.num) (d := ((x.den * y.den : Nat) : Int)) (by
    have := x.den_nz
    have := y.den_nz
    have : x.den * y.den ≠ 0 := Nat.mul_ne_zero (by assumption) (by assumption)
    omega)
  rw [Rat.divInt_ofNat, ← Rat.mul_def'] at h
  have hx1 := zb_num x
  have hx2 := zb_den x
  have hy1 := zb_num y
  have hy2 := zb_den y
  have m1 : (x.num * y.num).natAbs.log2 ≤ x.num.natAbs.log2 + y.num.natAbs.log2 + 1 := by
    rw [Int.natAbs_mul]
    exact log2_mul_le
  have m4 : (((x.den * y.den : Nat) : Int)).natAbs.log2 ≤ x.den.log2 + y.den.log2 + 1 := by
    rw [Int.natAbs_natCast]
    exact log2_mul_le
  omega
theorem zb_neg (x : Rat) : zb (-x) = zb x := by
  unfold zb
  rw [Rat.neg_num, Rat.neg_den, Int.natAbs_neg]
def ZM : Nat := 60000000
theorem mulok {i j : Int} (h : i.natAbs.log2 + j.natAbs.log2 < ZM) : MulOk i j := Nat.lt_trans h (by unfold ZM; decide)
section
variable {x y : Rat} {st : List Cell} {Q : Vl → List Cell → Prop}
theorem den_pos (x : Rat) : ((x.den : Nat) : Int) ≠ 0 := by
  have := x.den_nz
  omega
theorem mul_nn (x y : Rat) : ((x.den : Nat) : Int) * ((y.den : Nat) : Int) ≠ 0 := Int.mul_ne_zero (den_pos x) (den_pos y)
theorem mk_nn {i j : Nat} {a b : Int} (ha : a.natAbs.log2 + 2 ≤ i) (hb : b.natAbs.log2 + 2 ≤ j) (h : i + j < ZM) : MulOk a b := mulok (by omega)
theorem dn (x : Rat) : ((x.den : Nat) : Int).natAbs.log2 + 2 ≤ zb x := by
  rw [Int.natAbs_natCast]
  exact zb_den x
theorem add_ok (hz : zb x + zb y < ZM) (h : Q (.d (fr (x + y))) st) : sp_add [.d (fr x), .d (fr y)] st Q := by
  unfold sp_add
  refine ⟨rfl, ?_⟩
  refine ⟨mk_nn (zb_num x) (dn y) hz, mk_nn (zb_num y) (dn x) (by omega), mk_nn (dn x) (dn y) hz, ?_⟩
  refine fraction_ok (mul_nn x y) (tk ?_)
  rw [← Int.natCast_mul, Rat.divInt_ofNat, ← Rat.add_def']
  exact h
theorem negative_ok (h : Q (.d (fr (-x))) st) : sp_negative [.d (fr x)] st Q := by
  unfold sp_negative
  refine ⟨rfl, lineN rfl, tk ?_⟩
  have e : fr (-x) = .tup [.int (-x.num), .int x.den] := by
    unfold fr
    rw [Rat.neg_num, Rat.neg_den]
  rw [e] at h
  exact h
theorem subtract_ok (hz : zb x + zb y < ZM) (h : Q (.d (fr (x - y))) st) : sp_subtract [.d (fr x), .d (fr y)] st Q := by
  unfold sp_subtract
  refine ⟨rfl, ?_⟩
  refine negative_ok ?_
  refine add_ok (by rw [zb_neg]; exact hz) (tk ?_)
  rw [← Rat.sub_eq_add_neg]
  exact h
def sgn (x : Rat) : Int := if 0 < x then 1 else if x < 0 then -1 else 0
theorem num_neg_iff (x : Rat) : x.num < 0 ↔ x < 0 := by
  have h := Rat.num_nonneg (q := x)
  rw [← Rat.not_le, ← h]
  omega
theorem num_pos_iff (x : Rat) : 0 < x.num ↔ 0 < x := by
  have h := num_neg_iff (-x)
  rw [Rat.neg_num] at h
  have : (0 < x) ↔ (-x < 0) := by grind
  rw [this, ← h]
  omega
theorem sign_ok (h : Q (.d (.int (sgn x))) st) : sp_sign [.d (fr x)] st Q := by
  unfold sp_sign
  refine ⟨rfl, trivial, ?_⟩
  show if (decide ((0 : Int) < x.num)) = true then _ else _
  unfold sgn at h
  by_cases h1 : 0 < x
  · rw [if_pos (decide_eq_true ((num_pos_iff x).mpr h1))]
    rw [if_pos h1] at h
    exact tk h
  · rw [if_neg (by simp only [decide_eq_true_eq]; exact fun z => h1 ((num_pos_iff x).mp z))]
    rw [if_neg h1] at h
    refine ⟨trivial, ?_⟩
    show if (decide (x.num < 0)) = true then _ else _
    by_cases h2 : x < 0
    · rw [if_pos (decide_eq_true ((num_neg_iff x).mpr h2))]
      rw [if_pos h2] at h
      exact tk h
    · rw [if_neg (by simp only [decide_eq_true_eq]; exact fun z => h2 ((num_neg_iff x).mp z))]
      rw [if_neg h2] at h
      exact tk h
theorem compare_ok (hz : zb x + zb y < ZM) (h : Q (.d (.int (sgn (x - y)))) st) : sp_compare [.d (fr x), .d (fr y)] st Q := by
  unfold sp_compare
  refine ⟨rfl, subtract_ok hz (sign_ok (tk h))⟩
theorem sgn_lt (x y : Rat) : sgn (x - y) < 0 ↔ x < y := by
  unfold sgn
  grind
theorem is_less_ok (hz : zb x + zb y < ZM) (h : Q (.d (.bl (decide (x < y)))) st) : sp_is_less [.d (fr x), .d (fr y)] st Q := by
  unfold sp_is_less
  refine ⟨rfl, compare_ok hz ⟨trivial, tk ?_⟩⟩
  have e : decide (sgn (x - y) < 0) = decide (x < y) := decide_eq_decide.mpr (sgn_lt x y)
  rw [← e] at h
  exact h
end
end PG

set_option maxRecDepth 100000
set_option maxHeartbeats 4000000
namespace PG
open PySem PySem.Spec PyProof.Rows L2 RT

theorem range_inv {i : Nat} {b : DS} {all : List Dt} {E : DEnds} (I : Nat → Int → M → Prop)
    (hs : ∀ n lo m (K : M → Prop), (∀ m', I n (lo + 1) m' → K m') → I (n + 1) lo m → b ⟨K, E.rt, E.nx, K⟩ ⟨m.sl.set i (some (.d (.int lo))), m.st⟩) (hd : ∀ lo m, I 0 lo m → E.nx m) :
    ∀ (n : Nat) (lo : Int) (m : M), I n lo m → dLoop (.nm i) b all none E (rangeD lo n) m
  | 0, lo, m, h => ⟨trivial, hd lo m h⟩
  | n + 1, lo, m, h => ⟨trivial, hs n lo m _ (fun m' h' => range_inv I hs hd n (lo + 1) m' h') h⟩

def eu : Nat → Nat → Nat → Nat
  | 0, x, _ => x
  | j + 1, x, y => if 0 < y then eu j y (x % y) else eu j x y
theorem eu_zero : ∀ (j x : Nat), eu j x 0 = x
  | 0, _ => rfl
  | j + 1, x => by
    unfold eu
    rw [if_neg (by omega), eu_zero j x]
theorem eu_gcd : ∀ (j x y : Nat), y < 2 ^ (j / 2) → eu j x y = Nat.gcd x y
  | 0, x, y, h => by
    have : y = 0 := by simpa using h
    subst this
    rw [eu_zero, Nat.gcd_zero_right]
  | 1, x, y, h => by
    have : y = 0 := by simpa using h
    subst this
    rw [eu_zero, Nat.gcd_zero_right]
  | j + 2, x, y, h => by
    by_cases hy : 0 < y
    · unfold eu
      rw [if_pos hy]
      have e1 : Nat.gcd x y = Nat.gcd y (x % y) := by rw [Nat.gcd_comm x y, Nat.gcd_rec y x, Nat.gcd_comm]
      rw [e1]
      by_cases hz : 0 < x % y
      · unfold eu
        rw [if_pos hz]
        have e2 : Nat.gcd y (x % y) = Nat.gcd (x % y) (y % (x % y)) := by rw [Nat.gcd_comm y (x % y), Nat.gcd_rec (x % y) y, Nat.gcd_comm]
        rw [e2]
        refine eu_gcd j _ _ ?_
        have h1 : x % y < y := Nat.mod_lt _ hy
        have h2 : y % (x % y) < x % y := Nat.mod_lt _ hz
        have h3 : y % (x % y) + (x % y) ≤ y := by
          have := Nat.div_add_mod y (x % y)
          have hq : 1 ≤ y / (x % y) := (Nat.le_div_iff_mul_le hz).mpr (by omega)
          have : (x % y) * 1 ≤ (x % y) * (y / (x % y)) := Nat.mul_le_mul_left _ hq
          omega
        have h4 : (j + 2) / 2 = j / 2 + 1 := by omega
        rw [h4, Nat.pow_succ] at h
        omega
      · have : x % y = 0 := by omega
        rw [this, eu_zero, Nat.gcd_zero_right]
    · have : y = 0 := by omega
      subst this
      rw [eu_zero, Nat.gcd_zero_right]
theorem divisor_ok {a b : Int} {st : List Cell} {Q : Vl → List Cell → Prop} (hb : b.natAbs < 2 ^ 200) (h : Q (.d (.int (Int.gcd a b : Int))) st) : sp__law_divisor [.d (.int a), .d (.int b)] st Q := by
  unfold sp__law_divisor
  refine ⟨rfl, ?_⟩
  show small62 400 ∧ dLoop (.nm 2) _ _ none _ (rangeD 0 400) ⟨[some (.d (.int (if a < 0 then -a else a))), some (.d (.int (if b < 0 then -b else b))), none], st⟩
  rw [abs_eq, abs_eq]
  refine ⟨⟨by decide, by decide⟩, range_inv (fun n lo m => ∃ (x y : Nat) (z : Option Vl), m = ⟨[some (.d (.int x)), some (.d (.int y)), z], st⟩ ∧ eu n x y = Int.gcd a b) ?_ ?_ 400 0 _ ⟨_, _, _, rfl, eu_gcd 400 _ _ hb⟩⟩
  · rintro n lo m K hK ⟨x, y, z, rfl, e⟩
    refine ⟨trivial, ?_⟩
    show if (decide ((0 : Int) < y)) = true then _ else _
    unfold eu at e
    by_cases hy : (0 : Int) < y
    · rw [if_pos (decide_eq_true hy)]
      rw [if_pos (by omega)] at e
      refine ⟨by omega, hK _ ⟨y, x % y, some (.d (.int lo)), ?_, e⟩⟩
      rw [Int.natCast_emod, ← Int.fmod_eq_emod_of_nonneg _ (by omega)]
      rfl
    · rw [if_neg (by simp; omega)]
      rw [if_neg (by omega)] at e
      exact hK _ ⟨x, y, some (.d (.int lo)), rfl, e⟩
  · rintro lo m ⟨x, y, z, rfl, e⟩
    have e' : x = Int.gcd a b := e
    rw [← e'] at h
    exact tk h

theorem pos_fr {n d : Int} (hd : 0 < d) : Dt.tup [.int (n.fdiv (Int.gcd n d : Int)), .int (d.fdiv (Int.gcd n d : Int))] = fr (Rat.divInt n d) := by
  have hg : (Int.gcd n d : Int) ≠ 0 := by
    have : Int.gcd n d ≠ 0 := fun e => by
      have := (Int.gcd_eq_zero_iff.mp e).2
      omega
    omega
  have hn : (Int.gcd n d : Int) ∣ n := Int.gcd_dvd_left ..
  have hd' : (Int.gcd n d : Int) ∣ d := Int.gcd_dvd_right ..
  have e1 : (Rat.divInt n d).num = n / Int.gcd n d := by rw [Rat.num_divInt, Int.gcd_comm, Int.sign_eq_one_of_pos hd, Int.one_mul]
  have e2 : (((Rat.divInt n d).den : Nat) : Int) = d / Int.gcd n d := by
    rw [Rat.den_divInt, if_neg (by omega), Int.natCast_ediv, Int.gcd_comm, ← sign_self, Int.sign_eq_one_of_pos hd, Int.one_mul]
  unfold fr
  rw [e1, e2]
  have q1 := sgn_div hg hn (.inl rfl)
  have q2 := sgn_div hg hd' (.inl rfl)
  rw [Int.one_mul, Int.one_mul] at q1 q2
  rw [q1, q2]
theorem lfr_ok {n d : Int} {st : List Cell} {Q : Vl → List Cell → Prop} (hd : d ≠ 0) (hz : d.natAbs < 2 ^ 200) (h : Q (.d (fr (Rat.divInt n d))) st) : sp__law_fr [.d (.int n), .d (.int d)] st Q := by
  unfold sp__law_fr
  refine ⟨rfl, trivial, ?_⟩
  show if (decide (d < 0)) = true then _ else _
  have go : ∀ n d : Int, 0 < d → d.natAbs < 2 ^ 200 → Q (.d (fr (Rat.divInt n d))) st → dSeq (dSet 2 (dCall PG.sp__law_divisor [] (dCons (dVar 0) (dCons (dVar 1) dNil)))) (dRet (dTup (dCons (dOp rDiv (dVar 0) (dVar 2)) (dCons (dOp rDiv (dVar 1) (dVar 2)) dNil)))) (endsOf false st.length Q) ⟨[some (.d (.int n)), some (.d (.int d)), none], st⟩ := fun n d hd hz h => by
    have hg : (Int.gcd n d : Int) ≠ 0 := by
      have : Int.gcd n d ≠ 0 := fun e => by
        have := (Int.gcd_eq_zero_iff.mp e).2
        omega
      omega
    refine divisor_ok hz ⟨hg, hg, lineN rfl, tk ?_⟩
    rw [← pos_fr hd] at h
    exact h
  by_cases hs : d < 0
  · rw [if_pos (decide_eq_true hs)]
    refine ⟨trivial, trivial, go (0 - n) (0 - d) (by omega) (by omega) ?_⟩
    rw [Int.zero_sub, Int.zero_sub, Rat.neg_divInt_neg]
    exact h
  · rw [if_neg (by simp; omega)]
    exact go n d (by omega) hz h

theorem atI_int {ns : List Int} {k : Int} (h0 : 0 ≤ k) (h1 : k < ns.length) : atI (ns.map Dt.int) k = some (.int (ns.getD k.toNat 0)) := by
  unfold atI ixN
  rw [if_pos h0, List.length_map, if_pos h1]
  show (ns.map Dt.int)[k.toNat]? = _
  have hk : k.toNat < ns.length := by omega
  rw [List.getElem?_map, List.getD_eq_getElem?_getD, List.getElem?_eq_getElem hk]
  rfl
theorem getD_mem {ns : List Int} {k : Nat} (h : k < ns.length) : ns.getD k 0 ∈ ns := by
  rw [List.getD_eq_getElem?_getD, List.getElem?_eq_getElem h]
  exact List.getElem_mem h
theorem ix_ints {ns : List Int} {k : Int} {P : Dt → Prop} (h0 : 0 ≤ k) (h1 : k < ns.length) (h : P (.int (ns.getD k.toNat 0))) : RT.rIx (.lst (ns.map .int)) (.int k) P := onO_mk (atI_int h0 h1) h
def Bits (ns : List Int) : Prop := ∀ z ∈ ns, Builtin.Int.intBits z ≤ 1048576
theorem cell_ok {ns : List Int} {k : Int} {st : List Cell} {Q : Vl → List Cell → Prop} (hb : Bits ns) (h0 : 0 ≤ k) (h : ∀ v : Int, v.natAbs.log2 ≤ 1048576 → Q (.d (.int v)) st) : sp__law_cell [.d (.lst (ns.map .int)), .d (.int k)] st Q := by
  unfold sp__law_cell
  refine ⟨rfl, trivial, ?_⟩
  show if (decide (k < ((ns.map Dt.int).length : Int))) = true then _ else _
  rw [List.length_map]
  by_cases hk : k < (ns.length : Int)
  · rw [if_pos (decide_eq_true hk)]
    refine ix_ints h0 hk (tk (h _ ?_))
    have := hb _ (getD_mem (ns := ns) (k := k.toNat) (by omega))
    unfold Builtin.Int.intBits at this
    split at this
    · rename_i e
      have e' : ns.getD k.toNat 0 = 0 := by simpa using e
      rw [e']
      simp
    · omega
  · rw [if_neg (by simp; omega)]
    exact tk (h 0 (by simp))
def Dg (ds : List Int) : Prop := ∀ d ∈ ds, 0 ≤ d ∧ d < 1000
theorem Dg.app {ds : List Int} (h : Dg ds) {x : Int} (h0 : 0 ≤ x) (h1 : x < 1000) : Dg (ds ++ [x]) := fun d hd => by
  rcases List.mem_append.mp hd with z | z
  · exact h d z
  · rw [List.mem_singleton] at z
    rw [z]
    exact ⟨h0, h1⟩
theorem fmod_bd (a : Int) {n : Int} (h : 0 < n) : 0 ≤ a.fmod n ∧ a.fmod n < n := ⟨Int.fmod_nonneg_of_pos a h, Int.fmod_lt_of_pos a h⟩
theorem map_app (ds : List Int) (x : Int) : ds.map Dt.int ++ [Dt.int x] = (ds ++ [x]).map Dt.int := by simp

theorem getElem_last {α : Type} (l : List α) (x : α) : (l ++ [x])[l.length]? = some x := by simp
theorem set_last {α : Type} (l : List α) (x y : α) : (l ++ [x]).set l.length y = l ++ [y] := by simp

theorem push_st {st : List Cell} {ds : List Int} {x : Int} : (st ++ [Cell.lst (ds.map Dt.int)]).set st.length (Cell.lst (ds.map Dt.int ++ [Dt.int x])) = st ++ [Cell.lst ((ds ++ [x]).map Dt.int)] := by
  rw [set_last, map_app]
theorem k1000 : (1000 : Int) ≠ 0 := by decide
theorem k997 : (997 : Int) ≠ 0 := by decide
theorem kMx : (2147483647 : Int) ≠ 0 := by decide
theorem small_lt {n : Nat} (h : n < 16777216) : n < sizeLine := by
  rw [sizeLine_eq]
  exact h

theorem seq_mid {a b : DS} {E : DEnds} {m : M} (P : M → Prop) (h1 : ∀ K : M → Prop, (∀ m', P m' → K m') → a ⟨K, E.rt, E.bk, E.ct⟩ m) (h2 : ∀ m', P m' → b E m') : dSeq a b E m := h1 _ h2
theorem log2_small {v : Int} {n : Nat} (h0 : 0 ≤ v) (h : v < 2 ^ n) (hn : 0 < n) : v.natAbs.log2 < n := by
  by_cases hz : v.natAbs = 0
  · rw [hz]
    simpa using hn
  · refine (Nat.log2_lt hz).mpr ?_
    have : ((v.natAbs : Nat) : Int) < ((2 ^ n : Nat) : Int) := by
      rw [Int.natAbs_of_nonneg h0]
      push_cast
      exact h
    exact_mod_cast this
theorem digits_ok {ns : List Int} {a b : Int} {st : List Cell} {Q : Vl → List Cell → Prop} (hb : Bits ns) (h0 : 0 ≤ a) (h1 : a ≤ b) (h2 : b ≤ 100) (h : ∀ ds : List Int, Dg ds → ds.length ≤ 60 * (b - a).toNat → Q (.d (.lst (ds.map .int))) st) :
    sp__law_digits [.d (.lst (ns.map .int)), .d (.int a), .d (.int b)] st Q := by
  unfold sp__law_digits
  refine ⟨rfl, lineN rfl, ?_⟩
  -- for k in range(first, last)
  have e62 : small62 a ∧ small62 b := ⟨⟨by omega, by omega⟩, ⟨by omega, by omega⟩⟩
  refine ⟨e62, ?_⟩
  let S : List Int → Option Vl → Option Vl → Option Vl → Option Vl → M := fun ds z4 z5 z6 z7 => ⟨[some (.d (.lst (ns.map .int))), some (.d (.int a)), some (.d (.int b)), some (.c st.length), z4, z5, z6, z7], st ++ [.lst (ds.map .int)]⟩
  let I : Nat → Int → M → Prop := fun n lo m => ∃ (ds : List Int) (z4 z5 z6 z7 : Option Vl), m = S ds z4 z5 z6 z7 ∧ Dg ds ∧ a ≤ lo ∧ lo + n = b ∧ ds.length ≤ 60 * (lo - a).toNat
  refine range_inv I ?_ ?_ (b - a).toNat a _ ⟨[], none, none, none, none, rfl, (show Dg [] from fun d hd => nomatch hd), Int.le_refl _, by omega, Nat.zero_le _⟩
  · rintro n lo m K hK ⟨ds, z4, z5, z6, z7, rfl, hd, hlo, hn, hl⟩
    have hl' : ds.length ≤ 6000 := by omega
    refine cell_ok hb (by omega) fun v hv => ?_
    dsimp only
    refine seq_mid (fun m' => ∃ v : Int, m' = S ds (some (.d (.int lo))) (some (.d (.int v))) z6 z7 ∧ 0 ≤ v ∧ v.natAbs.log2 ≤ 1048580) (fun K' hK' => ?_) ?_
    · refine ⟨trivial, ?_⟩
      show if (decide (v < 0)) = true then _ else _
      by_cases hv0 : v < 0
      · rw [if_pos (decide_eq_true hv0)]
        refine ⟨?_, trivial, hK' _ ⟨1 - 2 * v, rfl, by omega, ?_⟩⟩
        · show (2 : Int).natAbs.log2 + v.natAbs.log2 < 67108864
          have : (2 : Int).natAbs.log2 = 1 := by decide
          omega
        · have e : (1 - 2 * v).natAbs = 1 + 2 * v.natAbs := by omega
          rw [e]
          have h1 := @log2_add_le 1 (2 * v.natAbs)
          have h2 := @log2_mul_le 2 v.natAbs
          have h3 : Nat.log2 2 = 1 := by decide
          have h4 : Nat.log2 1 = 0 := by decide
          omega
      · rw [if_neg (by simp; omega)]
        exact hK' _ ⟨v, rfl, by omega, by omega⟩
    · rintro m' ⟨v, rfl, hv0, hvb⟩
      refine ⟨⟨by decide, by decide, by decide⟩, trivial, ?_⟩
      show if (decide ((10 : Int) ^ 18 ≤ v)) = true then _ else _
      by_cases hbig : (10 : Int) ^ 18 ≤ v
      · rw [if_pos (decide_eq_true hbig)]
        refine ⟨⟨by decide, by decide⟩, ?_⟩
        refine range_inv (fun j l m => ∃ (ds' : List Int) (v : Int) (z : Option Vl), m = S ds' (some (.d (.int lo))) (some (.d (.int v))) z z7 ∧ Dg ds' ∧ ds'.length + j ≤ ds.length + 60) ?_ ?_ 60 0 _ ⟨ds, v, z6, rfl, hd, Nat.le_refl _⟩
        · rintro j l m K2 hK2 ⟨ds', v, z, rfl, hd', hl2⟩
          refine ⟨trivial, ?_⟩
          show if (decide ((0 : Int) < v)) = true then _ else _
          by_cases hvp : (0 : Int) < v
          · rw [if_pos (decide_eq_true hvp)]
            refine ⟨⟨_, getElem_last _ _⟩, k1000, onC_mk (getElem_last _ _) ⟨small_lt (by rw [List.length_map]; omega), k1000, ?_⟩⟩
            obtain ⟨b0, b1⟩ := fmod_bd v (n := 1000) (by decide)
            refine hK2 _ ⟨ds' ++ [v.fmod 1000], v.fdiv 1000, some (.d (.int l)), ?_, hd'.app b0 b1, by rw [List.length_append, List.length_singleton]; omega⟩
            exact congrArg (M.mk _) push_st
          · rw [if_neg (by simp; omega)]
            exact hK2 _ ⟨ds', v, some (.d (.int l)), rfl, hd', by omega⟩
        · rintro l m ⟨ds', v, z, rfl, hd', hl2⟩
          exact hK _ ⟨ds', _, _, _, _, rfl, hd', by omega, by omega, by omega⟩
      · rw [if_neg (by simp; omega)]
        have hv18 : v < 2 ^ 60 := by
          have : (10 : Int) ^ 18 < 2 ^ 60 := by decide
          omega
        have lv := log2_small hv0 hv18 (by decide)
        have llo := log2_small (v := lo) (n := 7) (by omega) (by omega) (by decide)
        refine ⟨?_, ?_, kMx, ?_⟩
        · show v.natAbs.log2 + (48271 : Int).natAbs.log2 < 67108864
          have : (48271 : Int).natAbs.log2 = 15 := by decide
          omega
        · show lo.natAbs.log2 + (69621 : Int).natAbs.log2 < 67108864
          have : (69621 : Int).natAbs.log2 = 16 := by decide
          omega
        refine ⟨⟨by decide, by decide⟩, ?_⟩
        obtain ⟨s0, s1⟩ := fmod_bd (v * 48271 + lo * 69621 + 11) (n := 2147483647) (by decide)
        refine range_inv (fun j l m => ∃ (ds' : List Int) (sd : Int) (z : Option Vl), m = S ds' (some (.d (.int lo))) (some (.d (.int v))) z (some (.d (.int sd))) ∧ Dg ds' ∧ ds'.length + j ≤ ds.length + 12 ∧ 0 ≤ sd ∧ sd < 2147483647 ∧ 0 ≤ l ∧ l + j = 12) ?_ ?_ 12 0 _ ⟨ds, _, z6, rfl, hd, Nat.le_refl _, s0, s1, by decide, by decide⟩
        · rintro j l m K2 hK2 ⟨ds', sd, z, rfl, hd', hl2, c0, c1, l0, l1⟩
          have lsd := log2_small (n := 31) c0 (by omega) (by decide)
          have ll := log2_small (v := l) (n := 4) l0 (by omega) (by decide)
          refine ⟨?_, ?_, kMx, ?_⟩
          · show sd.natAbs.log2 + (16807 : Int).natAbs.log2 < 67108864
            have : (16807 : Int).natAbs.log2 = 14 := by decide
            omega
          · show (7 : Int).natAbs.log2 + l.natAbs.log2 < 67108864
            have : (7 : Int).natAbs.log2 = 2 := by decide
            omega
          obtain ⟨t0, t1⟩ := fmod_bd (sd * 16807 + 7 * l + 1) (n := 2147483647) (by decide)
          refine ⟨⟨_, getElem_last _ _⟩, k997, k1000, onC_mk (getElem_last _ _) ⟨small_lt (by rw [List.length_map]; omega), ?_⟩⟩
          obtain ⟨b0, b1⟩ := fmod_bd (((sd * 16807 + 7 * l + 1).fmod 2147483647).fdiv 997) (n := 1000) (by decide)
          refine hK2 _ ⟨ds' ++ [(((sd * 16807 + 7 * l + 1).fmod 2147483647).fdiv 997).fmod 1000], _, some (.d (.int l)), ?_, hd'.app b0 b1, by rw [List.length_append, List.length_singleton]; omega, t0, t1, by omega, by omega⟩
          exact congrArg (M.mk _) push_st
        · rintro l m ⟨ds', sd, z, rfl, hd', hl2, _⟩
          exact hK _ ⟨ds', _, _, _, _, rfl, hd', by omega, by omega, by omega⟩
  · rintro lo m ⟨ds, z4, z5, z6, z7, rfl, hd, hlo, hn, hl⟩
    show if st.length < st.length then _ else onC (st ++ [Cell.lst (ds.map Dt.int)]) st.length _
    rw [if_neg (Nat.lt_irrefl _)]
    refine onC_mk (getElem_last _ _) ?_
    rw [if_neg (by decide)]
    show Q (.d (.lst (ds.map .int))) ((st ++ [Cell.lst (ds.map Dt.int)]).take st.length)
    rw [List.take_left]
    exact h ds hd (by omega)
end PG

set_option maxRecDepth 100000
set_option maxHeartbeats 4000000
namespace PG
open PySem PySem.Spec PyProof.Rows L2 RT
theorem onJ_mk {o : Option Nat} {P : Nat → Prop} {j : Nat} (e : o = some j) (h : P j) : onJ o P := by
  subst e
  exact h
theorem onV_d {m : M} {x : Dt} {P : Dt → Prop} (h : P x) : onV m (.d x) P := h
theorem rIx_mk {xs : List Dt} {k : Int} {z : Dt} {P : Dt → Prop} (e : atI xs k = some z) (h : P z) : RT.rIx (.lst xs) (.int k) P := onO_mk e h
def Bx (ds : List Int) (i : Nat) : Cell := .lst [.lst (ds.map .int), .int i]
theorem onV_c {sl : List (Option Vl)} {st : List Cell} {k : Nat} {xs : List Dt} {P : Dt → Prop} (e : st[k]? = some (.lst xs)) (h : P (.lst xs)) : onV ⟨sl, st⟩ (.c k) P := by
  unfold onV view
  simp only [e]
  exact h
theorem draw_ok {ds : List Int} {i k : Nat} {n : Int} {st : List Cell} {Q : Vl → List Cell → Prop} (hk : st[k]? = some (Bx ds i)) (hn : 0 < n) (h : ∀ r : Int, 0 ≤ r → r < n → Q (.d (.int r)) (st.set k (Bx ds (i + 1)))) :
    sp__law_draw [.c k, .d (.int n)] st Q := by
  have hlt : k < st.length := (List.getElem?_eq_some_iff.mp hk).1
  have hs : (st.set k (Bx ds (i + 1)))[k]? = some (Bx ds (i + 1)) := by simp [hlt]
  have hl : (st.set k (Bx ds (i + 1))).length = st.length := List.length_set
  unfold sp__law_draw
  refine ⟨rfl, ?_⟩
  refine onV_c hk ?_
  refine onC_mk hk ?_
  refine onJ_mk (j := 1) rfl ?_
  have e0 : ([Dt.lst (ds.map .int), Dt.int i].set 1 (Dt.int (i + 1))) = [Dt.lst (ds.map .int), Dt.int ((i + 1 : Nat) : Int)] := rfl
  dsimp only
  rw [e0]
  change dSeq (dIfS _ _ _) _ _ ⟨_, st.set k (Bx ds (i + 1))⟩
  refine onV_c hs ?_
  refine onV_d (rIx_mk (z := Dt.lst (ds.map .int)) rfl ?_)
  refine ⟨trivial, ?_⟩
  show if (decide ((i : Int) < ((ds.map Dt.int).length : Int))) = true then _ else _
  rw [List.length_map]
  by_cases hi : (i : Int) < (ds.length : Int)
  · rw [if_pos (decide_eq_true hi)]
    refine onV_c hs ?_
    refine onV_d (rIx_mk (z := Dt.lst (ds.map .int)) rfl ?_)
    refine ix_ints (ns := ds) (k := (i : Int)) (by omega) (by omega) ?_
    refine ⟨by show n ≠ 0; omega, ?_⟩
    obtain ⟨b0, b1⟩ := fmod_bd (ds.getD (i : Int).toNat 0) hn
    have := h _ b0 b1
    rw [← hl]
    exact tk this
  · rw [if_neg (by simp; omega)]
    rw [← hl]
    have := h 0 (Int.le_refl 0) hn
    exact tk this
theorem zb_small {n d : Int} {b : Nat} (hd : 0 < d) (h1 : n.natAbs < 2 ^ b) (h2 : d.natAbs < 2 ^ b) (hb : 0 < b) : zb (Rat.divInt n d) ≤ b + 2 := by
  have h := zb_divInt (n := n) (d := d) (by omega)
  have l : ∀ z : Nat, z < 2 ^ b → z.log2 ≤ b := fun z hz => by
    by_cases e : z = 0
    · rw [e]
      simp
    · have := (Nat.log2_lt e).mpr hz
      omega
  have := l _ h1
  have := l _ h2
  omega
theorem eqD_int {a b : Int} : eqD (.int a) (.int b) = decide (a = b) := by
  show (a == b) = _
  rw [Bool.eq_iff_iff]
  simp
end PG

set_option maxRecDepth 100000
set_option maxHeartbeats 4000000
namespace PG
open PySem PySem.Spec PyProof.Rows L2 RT
section
variable {x y : Rat} {st : List Cell} {Q : Vl → List Cell → Prop}
end
theorem zb_lt {x : Rat} {n : Nat} (h : zb x ≤ n) : x.num.natAbs < 2 ^ n ∧ x.den < 2 ^ n := by
  have h1 := zb_num x
  have h2 := zb_den x
  exact ⟨Nat.lt_of_lt_of_le Nat.lt_log2_self (Nat.pow_le_pow_right (by decide) (by omega)), Nat.lt_of_lt_of_le Nat.lt_log2_self (Nat.pow_le_pow_right (by decide) (by omega))⟩
def Sz (n : Int) (b : Nat) : Prop := n.natAbs < 2 ^ b
theorem sz_mul {m n : Int} {a b : Nat} (h1 : Sz m a) (h2 : Sz n b) : Sz (m * n) (a + b) := by
  unfold Sz at *
  rw [Int.natAbs_mul, Nat.pow_add]
  exact Nat.mul_lt_mul'' h1 h2
theorem sz_den {x : Rat} {n : Nat} (h : zb x ≤ n) : Sz x.den n := by
  unfold Sz
  rw [Int.natAbs_natCast]
  exact (zb_lt h).2
theorem zm {a b : Nat} (h : a + b < 60000000) : a + b < ZM := h

theorem add_val (x y : Rat) : x + y = Rat.divInt (x.num * y.den + y.num * x.den) (x.den * y.den) := by
  rw [← Int.natCast_mul, Rat.divInt_ofNat, ← Rat.add_def']
theorem guard_st {c : DT} {t b : DS} {E : DEnds} {m : M} (m' : M) (hc : ∀ K : Bool → M → Prop, K false m' → c m K) (h : b E m') : dSeq (dIfS c t dNext) b E m := hc _ h
theorem ret_st {t : DE} {kp : Bool} {Q : Vl → List Cell → Prop} {n : Nat} {m m' : M} (d : Dt) (hc : ∀ K : Vl → M → Prop, K (.d d) m' → t m K) (h : Q (.d d) (m'.st.take n)) : dRet t (endsOf kp n Q) m := hc _ h
end PG

set_option maxRecDepth 100000
set_option maxHeartbeats 4000000
namespace PG
open PySem PySem.Spec PyProof.Rows L2 RT

mutual
theorem eqv_self : ∀ x : Dt, PyData.eqv (toPy x) (toPy x) = true
  | .non => by simp [toPy, PyData.eqv]
  | .bl b => by simp [toPy, PyData.eqv]
  | .int i => by simp [toPy, PyData.eqv]
  | .str s => by simp [toPy, PyData.eqv]
  | .tup ds => by
    simp only [toPy, PyData.eqv]
    exact eqvs_self ds
  | .lst ds => by
    simp only [toPy, PyData.eqv]
    exact eqvs_self ds
theorem eqvs_self : ∀ ds : List Dt, PyData.eqvAll (toPys ds) (toPys ds) = true
  | [] => by simp [toPys, PyData.eqvAll]
  | d :: ds => by
    simp only [toPys, PyData.eqvAll, eqv_self d, eqvs_self ds, Bool.and_self]
end
theorem eqD_self (x : Dt) : eqD x x = true := eqv_self x
theorem neD_self (x : Dt) : (!eqD x x) = false := by rw [eqD_self]; rfl

mutual
def nb : Dt → Bool
  | .bl _ => false
  | .tup ds => nbs ds
  | .lst ds => nbs ds
  | .non => true
  | .int _ => true
  | .str _ => true
def nbs : List Dt → Bool
  | [] => true
  | d :: ds => nb d && nbs ds
end
mutual
theorem eqv_eq : ∀ x y : Dt, nb x = true → nb y = true → PyData.eqv (toPy x) (toPy y) = true → x = y
  | .bl _, _, h, _, _ => by simp [nb] at h
  | _, .bl _, _, h, _ => by simp [nb] at h
  | .non, .non, _, _, _ => rfl
  | .int i, .int j, _, _, h => by
    simp [toPy, PyData.eqv] at h
    rw [h]
  | .str i, .str j, _, _, h => by
    simp [toPy, PyData.eqv] at h
    rw [h]
  | .tup xs, .tup ys, h1, h2, h => by
    simp only [nb] at h1 h2
    simp only [toPy, PyData.eqv] at h
    rw [eqvs_eq xs ys h1 h2 h]
  | .lst xs, .lst ys, h1, h2, h => by
    simp only [nb] at h1 h2
    simp only [toPy, PyData.eqv] at h
    rw [eqvs_eq xs ys h1 h2 h]
  | .non, .int _, _, _, h | .non, .str _, _, _, h | .non, .tup _, _, _, h | .non, .lst _, _, _, h => by simp [toPy, PyData.eqv] at h
  | .int _, .non, _, _, h | .int _, .str _, _, _, h | .int _, .tup _, _, _, h | .int _, .lst _, _, _, h => by simp [toPy, PyData.eqv] at h
  | .str _, .non, _, _, h | .str _, .int _, _, _, h | .str _, .tup _, _, _, h | .str _, .lst _, _, _, h => by simp [toPy, PyData.eqv] at h
  | .tup _, .non, _, _, h | .tup _, .int _, _, _, h | .tup _, .str _, _, _, h | .tup _, .lst _, _, _, h => by simp [toPy, PyData.eqv] at h
  | .lst _, .non, _, _, h | .lst _, .int _, _, _, h | .lst _, .str _, _, _, h | .lst _, .tup _, _, _, h => by simp [toPy, PyData.eqv] at h
theorem eqvs_eq : ∀ xs ys : List Dt, nbs xs = true → nbs ys = true → PyData.eqvAll (toPys xs) (toPys ys) = true → xs = ys
  | [], [], _, _, _ => rfl
  | [], _ :: _, _, _, h => by simp [toPys, PyData.eqvAll] at h
  | _ :: _, [], _, _, h => by simp [toPys, PyData.eqvAll] at h
  | x :: xs, y :: ys, h1, h2, h => by
    simp only [nbs, Bool.and_eq_true] at h1 h2
    simp only [toPys, PyData.eqvAll, Bool.and_eq_true] at h
    rw [eqv_eq x y h1.1 h2.1 h.1, eqvs_eq xs ys h1.2 h2.2 h.2]
end
theorem eqD_iff {x y : Dt} (h1 : nb x = true) (h2 : nb y = true) : eqD x y = true ↔ x = y := ⟨eqv_eq x y h1 h2, fun e => e ▸ eqD_self x⟩

def Sh (n : Nat) (d : Dt) : Prop := (toPy d).canLay0 = true ∧ (toPy d).depth ≤ n
theorem sh_ok {n : Nat} {d : Dt} (h : Sh n d) (hn : Nat.ble n 64 = true := by rfl) : shD d := by
  unfold shD SeqAt.shaped
  rw [h.1, decide_eq_true (Nat.le_trans h.2 (Nat.le_of_ble_eq_true hn))]
  rfl
theorem canLays : ∀ {ds : List Dt}, (∀ d ∈ ds, (toPy d).canLay0 = true) → PyData.canLayAll0 (toPys ds) = true
  | [], _ => by simp [toPys, PyData.canLayAll0]
  | d :: ds, h => by
    simp only [toPys, PyData.canLayAll0, h d List.mem_cons_self, canLays fun x hx => h x (List.mem_cons_of_mem _ hx), Bool.and_self]
theorem depths : ∀ {n : Nat} {ds : List Dt}, (∀ d ∈ ds, (toPy d).depth ≤ n) → PyData.depthAll (toPys ds) ≤ n
  | n, [], _ => by simp [toPys, PyData.depthAll]
  | n, d :: ds, h => by
    have h1 := h d List.mem_cons_self
    have h2 := depths (n := n) (ds := ds) fun x hx => h x (List.mem_cons_of_mem _ hx)
    simp only [toPys, PyData.depthAll]
    omega
theorem sh_tup {n : Nat} {ds : List Dt} (h : ∀ d ∈ ds, Sh n d) : Sh (n + 1) (.tup ds) := by
  constructor
  · simp only [toPy, PyData.canLay0]
    exact canLays fun d hd => (h d hd).1
  · simp only [toPy, PyData.depth]
    have := depths (n := n) (ds := ds) fun d hd => (h d hd).2
    omega
theorem sh_lst {n : Nat} {ds : List Dt} (h : ∀ d ∈ ds, Sh n d) : Sh (n + 1) (.lst ds) := by
  constructor
  · simp only [toPy, PyData.canLay0]
    exact canLays fun d hd => (h d hd).1
  · simp only [toPy, PyData.depth]
    have := depths (n := n) (ds := ds) fun d hd => (h d hd).2
    omega
theorem sh_int {i : Int} {n : Nat} : Sh n (.int i) := ⟨rfl, Nat.zero_le _⟩
theorem sh_str {s : Str} {n : Nat} (h : PyData.canLay0 (.str s) = true) : Sh n (.str s) := ⟨by simp only [toPy]; exact h, by simp [toPy, PyData.depth]⟩
theorem all_nil {P : Dt → Prop} : ∀ d ∈ ([] : List Dt), P d := fun _ h => nomatch h
theorem all_cons {P : Dt → Prop} {x : Dt} {r : List Dt} (h1 : P x) (h2 : ∀ d ∈ r, P d) : ∀ d ∈ x :: r, P d := fun d hd => by
  rcases List.mem_cons.mp hd with e | e
  · rw [e]
    exact h1
  · exact h2 d e
theorem all_map {α : Type} {P : Dt → Prop} {f : α → Dt} {l : List α} (h : ∀ a ∈ l, P (f a)) : ∀ d ∈ l.map f, P d := fun d hd => by
  obtain ⟨a, ha, rfl⟩ := List.mem_map.mp hd
  exact h a ha
theorem sh_fr {q : Rat} : Sh 1 (fr q) := sh_tup (all_cons sh_int (all_cons sh_int all_nil))
def ofr : Option Rat → Dt
  | none => .non
  | some q => fr q
theorem nb_fr (q : Rat) : nb (fr q) = true := rfl
theorem fr_inj {x y : Rat} : fr x = fr y ↔ x = y := by
  constructor
  · intro h
    unfold fr at h
    injection h with h
    injection h with h1 h
    injection h with h2 _
    injection h1 with h1
    injection h2 with h2
    exact Rat.ext h1 (by omega)
  · intro h
    rw [h]

section
variable {x y : Rat} {st : List Cell} {Q : Vl → List Cell → Prop}
theorem pow_le {n : Nat} {a : Nat} (h : a ≤ 200) (h1 : n < 2 ^ a) : n < 2 ^ 200 := Nat.lt_of_lt_of_le h1 (Nat.pow_le_pow_right (by decide) h)
theorem den_mul (h : zb x + zb y ≤ 200) : ((x.den : Int) * y.den).natAbs < 2 ^ 200 := pow_le h (sz_mul (sz_den (Nat.le_refl (zb x))) (sz_den (Nat.le_refl (zb y))))
theorem zz (h : zb x + zb y ≤ 200) : zb x + zb y < ZM := zm (by omega)
theorem ladd_ok (hz : zb x + zb y ≤ 200) (h : Q (.d (fr (x + y))) st) : sp__law_add [.d (fr x), .d (fr y)] st Q := by
  unfold sp__law_add
  refine ⟨rfl, mk_nn (zb_num x) (dn y) (zz hz), mk_nn (zb_num y) (dn x) (by rw [Nat.add_comm]; exact zz hz), mk_nn (dn x) (dn y) (zz hz), ?_⟩
  refine lfr_ok (mul_nn x y) (den_mul hz) (tk ?_)
  rw [← add_val]
  exact h
end
section
variable {ds : List Int} {i k : Nat} {st : List Cell} {Q : Vl → List Cell → Prop}
end
end PG

set_option maxRecDepth 100000
set_option maxHeartbeats 4000000
namespace PG
open PySem PySem.Spec PyProof.Rows L2 RT
theorem each_inv {i : Nat} {b : DS} {all : List Dt} {lk : Option Nat} {E : DEnds} {α : Type} (f : α → Dt) (I : List α → M → Prop) (hlk : ∀ r m, I r m → lockOk lk all m)
    (hs : ∀ x r m (K : M → Prop), (∀ m', I r m' → K m') → I (x :: r) m → b ⟨K, E.rt, E.nx, K⟩ ⟨m.sl.set i (some (.d (f x))), m.st⟩) (hd : ∀ m, I [] m → E.nx m) :
    ∀ (xs : List α) (m : M), I xs m → dLoop (.nm i) b all lk E (xs.map f) m
  | [], m, h => ⟨hlk _ m h, hd m h⟩
  | x :: r, m, h => ⟨hlk _ m h, hs x r m _ (fun m' h' => each_inv f I hlk hs hd r m' h') h⟩

def bstep (lt : Rat → Rat → Prop) [DecidableRel lt] (b : Option Rat) (v : Option Rat) : Option Rat := match v, b with
  | none, b => b
  | some x, none => some x
  | some x, some y => if lt x y then some x else some y
def least (xs : List (Option Rat)) : Option Rat := xs.foldl (bstep fun x y => x < y) none
def greatest (xs : List (Option Rat)) : Option Rat := xs.foldl (bstep fun x y => y < x) none
section
variable {st : List Cell} {Q : Vl → List Cell → Prop}
end
end PG

set_option maxRecDepth 100000
set_option maxHeartbeats 4000000
namespace PG
open PySem PySem.Spec PyProof.Rows L2 RT

def In (D B : Nat) (q : Rat) : Prop := ∃ n : Int, q * (D : Rat) = (n : Rat) ∧ n.natAbs ≤ B * D
theorem in_add {D B C : Nat} {x y : Rat} : In D B x → In D C y → In D (B + C) (x + y) := fun ⟨n, h1, h2⟩ ⟨m, h3, h4⟩ => ⟨n + m, by rw [Rat.add_mul, h1, h3, ← Rat.intCast_add], by
  rw [Nat.add_mul]
  have := Int.natAbs_add_le n m
  omega⟩
theorem in_neg {D B : Nat} {x : Rat} : In D B x → In D B (-x) := fun ⟨n, h1, h2⟩ => ⟨-n, by rw [Rat.neg_mul, h1, Rat.intCast_neg], by rw [Int.natAbs_neg]; exact h2⟩
theorem in_sub {D B C : Nat} {x y : Rat} (h1 : In D B x) (h2 : In D C y) : In D (B + C) (x - y) := by
  rw [Rat.sub_eq_add_neg]
  exact in_add h1 (in_neg h2)
theorem in_le {D B C : Nat} {x : Rat} (h : B ≤ C) : In D B x → In D C x := fun ⟨n, h1, h2⟩ => ⟨n, h1, Nat.le_trans h2 (Nat.mul_le_mul_right _ h)⟩
theorem in_val {D B : Nat} {x : Rat} (hD : 0 < D) : In D B x → ∃ n : Int, x = Rat.divInt n D ∧ n.natAbs ≤ B * D := fun ⟨n, h1, h2⟩ => ⟨n, by
  rw [Rat.divInt_eq_div]
  have : (D : Rat) ≠ 0 := by
    have : D ≠ 0 := by omega
    simpa using this
  simp only [Rat.intCast_natCast]
  rw [← h1]
  grind, h2⟩
theorem in_zb {D B b : Nat} {x : Rat} (hD : 0 < D) (h : In D B x) (h1 : B * D < 2 ^ b) (h2 : D < 2 ^ b) (hb : 0 < b) : zb x ≤ b + 2 := by
  obtain ⟨n, e, hn⟩ := in_val hD h
  rw [e]
  exact zb_small (by omega) (by omega) (by omega) hb
theorem in_div {D B : Nat} {n : Int} {d : Nat} (hd : 0 < d) (hD : ∃ k, D = d * k) (h : n.natAbs ≤ B * d) : In D B (Rat.divInt n d) := by
  obtain ⟨k, rfl⟩ := hD
  refine ⟨n * k, ?_, ?_⟩
  · rw [Rat.divInt_eq_div, Rat.natCast_mul, Rat.intCast_mul]
    simp only [Rat.intCast_natCast]
    have : (d : Rat) ≠ 0 := by
      have : d ≠ 0 := by omega
      simpa using this
    grind
  · rw [Int.natAbs_mul, Int.natAbs_natCast, ← Nat.mul_assoc]
    exact Nat.mul_le_mul_right _ h
end PG

set_option maxRecDepth 100000
set_option maxHeartbeats 4000000
namespace PG
open PySem PySem.Spec PyProof.Rows L2 RT
theorem ifs_t {c : DT} {t u : DS} {E : DEnds} {m : M} (m' : M) (hc : ∀ K : Bool → M → Prop, K true m' → c m K) (h : t E m') : dIfS c t u E m := hc _ (by rw [if_pos rfl]; exact h)
end PG

set_option maxRecDepth 100000
set_option maxHeartbeats 4000000
namespace PG
open PySem PySem.Spec PyProof.Rows L2 RT
theorem idx6b (r : Int) (h0 : 0 ≤ r) (h1 : r < 6) : ∃ z : Nat, atI [Dt.int 1, .int 1, .int 1, .int 2, .int 3, .int 4] r = some (.int z) ∧ 0 < z ∧ z ≤ 4 ∧ ∃ k, 12 = z * k := by
  have : r = 0 ∨ r = 1 ∨ r = 2 ∨ r = 3 ∨ r = 4 ∨ r = 5 := by omega
  rcases this with rfl | rfl | rfl | rfl | rfl | rfl
  · exact ⟨1, rfl, by decide, by decide, 12, rfl⟩
  · exact ⟨1, rfl, by decide, by decide, 12, rfl⟩
  · exact ⟨1, rfl, by decide, by decide, 12, rfl⟩
  · exact ⟨2, rfl, by decide, by decide, 6, rfl⟩
  · exact ⟨3, rfl, by decide, by decide, 4, rfl⟩
  · exact ⟨4, rfl, by decide, by decide, 3, rfl⟩
def Pn (q : Rat) : Prop := ∃ (a : Int) (z : Nat), q = Rat.divInt a z ∧ a.natAbs ≤ 6 ∧ 0 < z ∧ z ≤ 4
theorem dvd12 {z : Nat} (h : 0 < z) (h4 : z ≤ 4) : ∃ k, 12 = z * k := by
  have : z = 1 ∨ z = 2 ∨ z = 3 ∨ z = 4 := by omega
  rcases this with rfl | rfl | rfl | rfl
  · exact ⟨12, rfl⟩
  · exact ⟨6, rfl⟩
  · exact ⟨4, rfl⟩
  · exact ⟨3, rfl⟩
theorem Pn.in_ {q : Rat} : Pn q → In 12 6 q := fun ⟨a, z, e, h1, h2, h3⟩ => by
  rw [e]
  exact in_div h2 (dvd12 h2 h3) (Nat.le_trans h1 (Nat.le_mul_of_pos_right _ h2))
theorem Pn.zb {q : Rat} (h : Pn q) : zb q ≤ 9 := in_zb (b := 7) (by decide) h.in_ (by decide) (by decide) (by decide)
section
variable {ds : List Int} {i k : Nat} {st : List Cell} {Q : Vl → List Cell → Prop}
theorem sm_ok (hk : st[k]? = some (Bx ds i)) (h : ∀ q : Rat, Pn q → Q (.d (fr q)) (st.set k (Bx ds (i + 2)))) : sp__law_some [.c k] st Q := by
  have hlt : k < st.length := (List.getElem?_eq_some_iff.mp hk).1
  have hs : ∀ c : Cell, (st.set k c)[k]? = some c := fun c => by simp [hlt]
  have hl : ∀ c : Cell, (st.set k c).length = st.length := fun c => List.length_set
  unfold sp__law_some
  refine ⟨rfl, draw_ok hk (by decide) fun a a0 a1 => ?_⟩
  refine ⟨trivial, lineN rfl, ?_⟩
  refine draw_ok (hs _) (by decide) fun b b0 b1 => ?_
  rw [List.set_set]
  obtain ⟨z, e, z0, z1, _⟩ := idx6b b b0 b1
  refine rIx_mk e ?_
  refine lfr_ok (by omega) (by omega) ?_
  rw [← hl (Bx ds (i + 2))]
  have := h (Rat.divInt (a - 6) z) ⟨a - 6, z, rfl, by omega, z0, z1⟩
  exact tk this
theorem fr_num_zero {q : Rat} : q.num = 0 ↔ q = 0 := Rat.num_eq_zero
theorem pn_half : Pn (Rat.divInt 1 2) := ⟨1, 2, rfl, by decide, by decide, by decide⟩
theorem other_ok (hk : st[k]? = some (Bx ds i)) (h : ∀ q : Rat, Pn q → q ≠ 0 → Q (.d (fr q)) (st.set k (Bx ds (i + 2)))) : sp__law_other [.c k] st Q := by
  have hl : ∀ c : Cell, (st.set k c).length = st.length := fun c => List.length_set
  unfold sp__law_other
  refine ⟨rfl, sm_ok hk fun q hq => ?_⟩
  refine ⟨rfl, rfl, ?_⟩
  show if eqD (.int q.num) (.int 0) = true then _ else _
  rw [eqD_int]
  by_cases c : q.num = 0
  · rw [if_pos (decide_eq_true c)]
    refine ⟨lineN rfl, ?_⟩
    have := h (Rat.divInt 1 2) pn_half (by decide)
    rw [← hl (Bx ds (i + 2))]
    exact tk this
  · rw [if_neg (by simpa using c)]
    have := h q hq (fun e => c (fr_num_zero.mpr e))
    rw [← hl (Bx ds (i + 2))]
    exact tk this
end

inductive El where
  | gap (g : Rat) | lens (p c : Rat) | prism (d : Rat) | afocal (m : Rat) | stop (lo hi : Option Rat)
def elD : El → Dt
  | .gap g => .tup [.str ("gap" : Str), fr g]
  | .lens p c => .tup [.str ("lens" : Str), fr p, fr c]
  | .prism d => .tup [.str ("prism" : Str), fr d]
  | .afocal m => .tup [.str ("afocal" : Str), fr m]
  | .stop lo hi => .tup [.str ("stop" : Str), ofr lo, ofr hi]
def ElIn : El → Prop
  | .gap g => Pn g
  | .lens p c => Pn p ∧ Pn c
  | .prism d => Pn d
  | .afocal m => Pn m ∧ m ≠ 0
  | .stop lo hi => (∀ q, lo = some q → In 12 12 q) ∧ ∀ q, hi = some q → In 12 12 q
theorem pn_zero : Pn 0 := ⟨0, 1, by decide, by decide, by decide, by decide⟩
section
variable {ds : List Int} {i k : Nat} {st : List Cell} {Q : Vl → List Cell → Prop}
theorem stop_ok (hk : st[k]? = some (Bx ds i)) (h : ∀ (lo hi : Option Rat) (j : Nat), ElIn (.stop lo hi) → Q (.d (elD (.stop lo hi))) (st.set k (Bx ds j))) : sp__law_stop [.c k] st Q := by
  have hlt : k < st.length := (List.getElem?_eq_some_iff.mp hk).1
  have hs : ∀ c : Cell, (st.set k c)[k]? = some c := fun c => by simp [hlt]
  have hl : ∀ c : Cell, (st.set k c).length = st.length := fun c => List.length_set
  have tk' : ∀ {v : Vl} {c : Cell}, Q v (st.set k c) → Q v ((st.set k c).take st.length) := fun {v c} q => by
    rw [← hl c]
    exact tk q
  unfold sp__law_stop
  refine ⟨rfl, draw_ok hk (by decide) fun w w0 w1 => ?_⟩
  refine sm_ok (hs _) fun l hl1 => ?_
  rw [List.set_set]
  refine draw_ok (hs _) (by decide) fun a a0 a1 => ?_
  rw [List.set_set]
  refine lfr_ok (by decide) (by decide) ?_
  have hd : In 12 6 (Rat.divInt a 2) := in_div (d := 2) (by decide) ⟨6, rfl⟩ (by omega)
  have zd := in_zb (b := 7) (by decide) hd (by decide) (by decide) (by decide)
  refine ladd_ok (by have := hl1.zb; omega) ?_
  have hu : In 12 12 (l + Rat.divInt a 2) := in_add hl1.in_ hd
  have hl12 : In 12 12 l := in_le (by decide) hl1.in_
  generalize l + Rat.divInt a 2 = u at hu
  refine ⟨rfl, rfl, ?_⟩
  show if eqD (.int w) (.int 0) = true then _ else _
  rw [eqD_int]
  by_cases c0 : w = 0
  · rw [if_pos (decide_eq_true c0)]
    refine ⟨lineN rfl, ?_⟩
    exact tk' (h none (some u) _ ⟨(fun q e => nomatch e), fun q e => by cases e; exact hu⟩)
  rw [if_neg (by simpa using c0)]
  refine ⟨rfl, rfl, ?_⟩
  show if eqD (.int w) (.int 1) = true then _ else _
  rw [eqD_int]
  by_cases c1 : w = 1
  · rw [if_pos (decide_eq_true c1)]
    refine ⟨lineN rfl, ?_⟩
    exact tk' (h (some l) none _ ⟨fun q e => by cases e; exact hl12, fun q e => nomatch e⟩)
  rw [if_neg (by simpa using c1)]
  refine ⟨rfl, rfl, ?_⟩
  show if eqD (.int w) (.int 2) = true then _ else _
  rw [eqD_int]
  have last : ∀ j, Q (.d (elD (.stop (some l) (some u)))) ((st.set k (Bx ds j)).take st.length) := fun j => tk' (h (some l) (some u) _ ⟨fun q e => by cases e; exact hl12, fun q e => by cases e; exact hu⟩)
  by_cases c2 : w = 2
  · rw [if_pos (decide_eq_true c2)]
    refine draw_ok (hs _) (by decide) fun b b0 b1 => ?_
    rw [List.set_set]
    refine ⟨rfl, rfl, ?_⟩
    show if eqD (.int b) (.int 0) = true then _ else _
    rw [eqD_int]
    by_cases c3 : b = 0
    · rw [if_pos (decide_eq_true c3)]
      refine ⟨lineN rfl, ?_⟩
      exact tk' (h none none _ ⟨(fun q e => nomatch e), fun q e => nomatch e⟩)
    · rw [if_neg (by simpa using c3)]
      exact ⟨lineN rfl, last _⟩
  · rw [if_neg (by simpa using c2)]
    exact ⟨lineN rfl, last _⟩
theorem idx2 {x y : Rat} (hx : Pn x) (hy : Pn y) (r : Int) (h0 : 0 ≤ r) (h1 : r < 2) : ∃ z : Rat, atI [fr x, fr y] r = some (fr z) ∧ Pn z := by
  have : r = 0 ∨ r = 1 := by omega
  rcases this with rfl | rfl
  · exact ⟨x, rfl, hx⟩
  · exact ⟨y, rfl, hy⟩
theorem element_ok (hk : st[k]? = some (Bx ds i)) (h : ∀ (e : El) (j : Nat), ElIn e → Q (.d (elD e)) (st.set k (Bx ds j))) : sp__law_element [.c k] st Q := by
  have hlt : k < st.length := (List.getElem?_eq_some_iff.mp hk).1
  have hs : ∀ c : Cell, (st.set k c)[k]? = some c := fun c => by simp [hlt]
  have hl : ∀ c : Cell, (st.set k c).length = st.length := fun c => List.length_set
  have tk' : ∀ {v : Vl} {c : Cell}, Q v (st.set k c) → Q v ((st.set k c).take st.length) := fun {v c} q => by
    rw [← hl c]
    exact tk q
  unfold sp__law_element
  refine ⟨rfl, draw_ok hk (by decide) fun w w0 w1 => ?_⟩
  refine ⟨trivial, ?_⟩
  show if (decide (w < 2)) = true then _ else _
  by_cases c0 : w < 2
  · rw [if_pos (decide_eq_true c0)]
    refine sm_ok (hs _) fun g hg => ?_
    rw [List.set_set]
    exact ⟨lineN rfl, tk' (h (.gap g) _ hg)⟩
  rw [if_neg (by simpa using c0)]
  refine ⟨rfl, rfl, ?_⟩
  show if eqD (.int w) (.int 2) = true then _ else _
  rw [eqD_int]
  by_cases c2 : w = 2
  · rw [if_pos (decide_eq_true c2)]
    refine sm_ok (hs _) fun p hp => ?_
    rw [List.set_set]
    refine ⟨lineN rfl, ?_⟩
    refine sm_ok (hs _) fun c hc => ?_
    rw [List.set_set]
    refine ⟨lineN rfl, ?_⟩
    refine draw_ok (hs _) (by decide) fun b b0 b1 => ?_
    rw [List.set_set]
    obtain ⟨z, e, hz⟩ := idx2 pn_zero hc b b0 b1
    refine rIx_mk e ?_
    exact ⟨lineN rfl, tk' (h (.lens p z) _ ⟨hp, hz⟩)⟩
  rw [if_neg (by simpa using c2)]
  refine ⟨rfl, rfl, ?_⟩
  show if eqD (.int w) (.int 3) = true then _ else _
  rw [eqD_int]
  by_cases c3 : w = 3
  · rw [if_pos (decide_eq_true c3)]
    refine sm_ok (hs _) fun g hg => ?_
    rw [List.set_set]
    exact ⟨lineN rfl, tk' (h (.prism g) _ hg)⟩
  rw [if_neg (by simpa using c3)]
  refine ⟨rfl, rfl, ?_⟩
  show if eqD (.int w) (.int 4) = true then _ else _
  rw [eqD_int]
  by_cases c4 : w = 4
  · rw [if_pos (decide_eq_true c4)]
    refine other_ok (hs _) fun g hg hn => ?_
    rw [List.set_set]
    exact ⟨lineN rfl, tk' (h (.afocal g) _ ⟨hg, hn⟩)⟩
  rw [if_neg (by simpa using c4)]
  refine stop_ok (hs _) fun lo hi j he => ?_
  rw [List.set_set]
  exact tk' (h (.stop lo hi) j he)
end
end PG

set_option maxRecDepth 100000
set_option maxHeartbeats 4000000
namespace PG
open PySem PySem.Spec PyProof.Rows L2 RT
theorem lc_inv {α : Type} (f : α → Dt) {sl slw : List (Option Vl)} {i : Nat} {te : DE} {all : List Dt} {lk : Option Nat} {K : List Dt → M → Prop} (I : List Dt → List α → List Cell → Prop)
    (hlk : ∀ r acc st, I r acc st → lockOk lk all ⟨sl, st⟩)
    (hlen : ∀ x r acc st, I (x :: r) acc st → acc.length < sizeLine)
    (hs : ∀ x r acc st (P : Vl → M → Prop), I (x :: r) acc st → (∀ a m', I r (acc ++ [a]) m'.st → P (.d (f a)) m') → te ⟨slw.set i (some (.d x)), st⟩ P)
    (hd : ∀ acc st, I [] acc st → K (acc.map f) ⟨sl, st⟩) : ∀ (xs : List Dt) (acc : List α) (st : List Cell), I xs acc st → dLcGo sl slw (.nm i) dYes te all lk K xs (acc.map f) st
  | [], acc, st, h => ⟨hlk _ _ _ h, hd acc st h⟩
  | x :: r, acc, st, h => ⟨hlk _ _ _ h, by
    show te ⟨slw.set i (some (.d x)), st⟩ _
    refine hs x r acc st _ h fun a m' h' => ?_
    refine ⟨by rw [List.length_map]; exact hlen x r acc st h, ?_⟩
    have := lc_inv f I hlk hlen hs hd r (acc ++ [a]) m'.st h'
    rw [List.map_append] at this
    exact this⟩
section
variable {ds : List Int} {i k : Nat} {st : List Cell} {Q : Vl → List Cell → Prop}
theorem train_ok {n : Nat} (hn : n ≤ 100) (hk : st[k]? = some (Bx ds i)) (h : ∀ (es : List El) (j : Nat), es.length ≤ n → (∀ e ∈ es, ElIn e) → Q (.d (.lst (es.map elD))) (st.set k (Bx ds j))) : sp__law_train [.c k, .d (.int n)] st Q := by
  have hlt : k < st.length := (List.getElem?_eq_some_iff.mp hk).1
  have hs : ∀ c : Cell, (st.set k c)[k]? = some c := fun c => by simp [hlt]
  have hl : ∀ c : Cell, (st.set k c).length = st.length := fun c => List.length_set
  have tk' : ∀ {v : Vl} {c : Cell}, Q v (st.set k c) → Q v ((st.set k c).take st.length) := fun {v c} q => by
    rw [← hl c]
    exact tk q
  unfold sp__law_train
  refine ⟨rfl, draw_ok hk (by omega) fun r r0 r1 => ?_⟩
  refine ⟨⟨by omega, by omega⟩, ?_⟩
  refine lc_inv (lk := none) elD (fun r acc st' => ∃ j, st' = st.set k (Bx ds j) ∧ acc.length + r.length ≤ n ∧ ∀ e ∈ acc, ElIn e) (fun _ _ _ _ => trivial) ?_ ?_ ?_ _ [] _ ⟨i + 1, rfl, by
    rw [rangeD_len, List.length_nil]
    omega, fun e he => nomatch he⟩
  · rintro x r acc st' ⟨j, rfl, hlen, _⟩
    rw [List.length_cons] at hlen
    exact small_lt (by omega)
  · rintro x r acc st' P ⟨j, rfl, hlen, ha⟩ hP
    refine element_ok (hs _) fun e j' he => ?_
    rw [List.set_set]
    refine hP e ⟨_, _⟩ ⟨j', rfl, ?_, fun e' he' => ?_⟩
    · rw [List.length_append, List.length_singleton]
      rw [List.length_cons] at hlen
      omega
    · rcases List.mem_append.mp he' with h | h
      · exact ha e' h
      · rw [List.mem_singleton] at h
        rw [h]
        exact he
  · rintro acc st' ⟨j, rfl, hlen, ha⟩
    exact tk' (h acc j (by simpa using hlen) ha)
end

abbrev Ray := Rat × Rat
def behind : El → Ray → Ray
  | .gap g, r => (r.1 + g * r.2, r.2)
  | .lens p c, r => (r.1, r.2 - p * (r.1 - c))
  | .prism d, r => (r.1, r.2 + d)
  | .afocal m, r => (m * r.1, r.2 * m⁻¹)
  | .stop _ _, r => r
def Rb (j : Nat) (r : Ray) : Prop := In (12 * 60 ^ j) (6 * 13 ^ j) r.1 ∧ In (12 * 60 ^ j) (6 * 13 ^ j) r.2
theorem eqS (a b : Str) : eqD (.str a) (.str b) = decide (a = b) := by
  show (a == b) = _
  rw [Bool.eq_iff_iff]
  simp
theorem shS {s : Str} (h : PyData.canLay0 (.str s) = true) : shD (.str s) := sh_ok (n := 0) (sh_str h)
theorem s_gap : shD (.str ("gap" : Str)) := shS (by decide +kernel)
theorem s_lens : shD (.str ("lens" : Str)) := shS (by decide +kernel)
theorem s_prism : shD (.str ("prism" : Str)) := shS (by decide +kernel)
theorem s_afocal : shD (.str ("afocal" : Str)) := shS (by decide +kernel)
theorem s_stop : shD (.str ("stop" : Str)) := shS (by decide +kernel)
def tag : El → Str
  | .gap _ => "gap" | .lens _ _ => "lens" | .prism _ => "prism" | .afocal _ => "afocal" | .stop _ _ => "stop"
theorem s_tag (e : El) : shD (.str (tag e)) := by
  cases e
  · exact s_gap
  · exact s_lens
  · exact s_prism
  · exact s_afocal
  · exact s_stop
theorem ne_lg : decide (("lens" : Str) = "gap") = false := by decide +kernel
theorem ne_pg : decide (("prism" : Str) = "gap") = false := by decide +kernel
theorem ne_ag : decide (("afocal" : Str) = "gap") = false := by decide +kernel
theorem ne_sg : decide (("stop" : Str) = "gap") = false := by decide +kernel
theorem ne_gs : decide (("gap" : Str) = "stop") = false := by decide +kernel
theorem ne_ls : decide (("lens" : Str) = "stop") = false := by decide +kernel
theorem ne_ps : decide (("prism" : Str) = "stop") = false := by decide +kernel
theorem ne_as : decide (("afocal" : Str) = "stop") = false := by decide +kernel
section
variable {st : List Cell} {Q : Vl → List Cell → Prop}
def Zo (n : Nat) (o : Option Rat) : Prop := ∀ q, o = some q → zb q ≤ n
theorem ElIn.zo {lo hi : Option Rat} (h : ElIn (.stop lo hi)) : Zo 10 lo ∧ Zo 10 hi := ⟨fun q e => in_zb (b := 8) (by decide) (h.1 q e) (by decide) (by decide) (by decide), fun q e => in_zb (b := 8) (by decide) (h.2 q e) (by decide) (by decide) (by decide)⟩
def ElZ (n : Nat) : El → Prop
  | .gap g => zb g ≤ n
  | .lens p c => zb p ≤ n ∧ zb c ≤ n
  | .prism d => zb d ≤ n
  | .afocal m => zb m ≤ n ∧ m ≠ 0
  | .stop lo hi => Zo n lo ∧ Zo n hi
theorem ElIn.z {e : El} (h : ElIn e) : ElZ 10 e := by
  cases e with
  | gap g => exact Nat.le_trans (Pn.zb h) (by decide)
  | lens p c => exact ⟨Nat.le_trans (Pn.zb h.1) (by decide), Nat.le_trans (Pn.zb h.2) (by decide)⟩
  | prism d => exact Nat.le_trans (Pn.zb h) (by decide)
  | afocal m => exact ⟨Nat.le_trans (Pn.zb h.1) (by decide), h.2⟩
  | stop lo hi => exact ElIn.zo h
end
end PG

set_option maxRecDepth 100000
set_option maxHeartbeats 4000000
namespace PG
open PySem PySem.Spec PyProof.Rows L2 RT
theorem atI_map {α : Type} {f : α → Dt} {xs : List α} {k : Nat} {x : α} (h : xs[k]? = some x) : atI (xs.map f) (k : Int) = some (f x) := by
  have hk : k < xs.length := (List.getElem?_eq_some_iff.mp h).1
  unfold atI ixN
  rw [if_pos (by omega), List.length_map, if_pos (by omega)]
  show (xs.map f)[((k : Int)).toNat]? = _
  rw [Int.toNat_natCast, List.getElem?_map, h]
  rfl

structure Gr (n : Nat) (es : List El) (r0 : Ray) (R : Nat → Ray → Prop) : Prop where
  st : R 0 r0
  step : ∀ j e r, j < es.length → e ∈ es → R j r → R (j + 1) (behind e r)
  z : ∀ j r, j ≤ es.length → R j r → zb r.1 ≤ n ∧ zb r.2 ≤ n
section
variable {st : List Cell} {Q : Vl → List Cell → Prop} {es : List El} {r0 : Ray} {R : Nat → Ray → Prop} {n : Nat}
end
end PG

set_option maxRecDepth 100000
set_option maxHeartbeats 4000000
namespace PG
open PySem PySem.Spec PyProof.Rows L2 RT
end PG

set_option maxRecDepth 100000
set_option maxHeartbeats 4000000
namespace PG
open PySem PySem.Spec PyProof.Rows L2 RT

structure Mp where
  a : Rat
  b : Rat
  c : Rat
  d : Rat
  e : Rat
  f : Rat
def idM : Mp := ⟨1, 0, 0, 1, 0, 0⟩
def appM (m : Mp) (r : Ray) : Ray := (m.a * r.1 + m.b * r.2 + m.e, m.c * r.1 + m.d * r.2 + m.f)
def comp (x y : Mp) : Mp := ⟨y.a * x.a + y.b * x.c, y.a * x.b + y.b * x.d, y.c * x.a + y.d * x.c, y.c * x.b + y.d * x.d, y.a * x.e + y.b * x.f + y.e, y.c * x.e + y.d * x.f + y.f⟩
def elM : El → Mp
  | .gap g => ⟨1, g, 0, 1, 0, 0⟩
  | .lens p c => ⟨1, 0, -p, 1, 0, p * c⟩
  | .prism d => ⟨1, 0, 0, 1, 0, d⟩
  | .afocal m => ⟨m, 0, 0, 1 / m, 0, 0⟩
  | .stop _ _ => idM
def det (m : Mp) : Rat := m.a * m.d - m.b * m.c
def transfer (es : List El) : Mp := es.foldl (fun m e => comp m (elM e)) idM
theorem Mp.ext {x y : Mp} (h1 : x.a = y.a) (h2 : x.b = y.b) (h3 : x.c = y.c) (h4 : x.d = y.d) (h5 : x.e = y.e) (h6 : x.f = y.f) : x = y := by
  cases x
  cases y
  simp_all
theorem comp_id (m : Mp) : comp idM m = m := by
  refine Mp.ext ?_ ?_ ?_ ?_ ?_ ?_ <;> simp [comp, idM] <;> grind
theorem id_comp (m : Mp) : comp m idM = m := by
  refine Mp.ext ?_ ?_ ?_ ?_ ?_ ?_ <;> simp [comp, idM] <;> grind
theorem comp_assoc (x y z : Mp) : comp (comp x y) z = comp x (comp y z) := by
  refine Mp.ext ?_ ?_ ?_ ?_ ?_ ?_ <;> simp only [comp] <;> grind
theorem det_comp (x y : Mp) : det (comp x y) = det x * det y := by
  simp only [det, comp]
  grind
def ElOk : El → Prop
  | .afocal m => m ≠ 0
  | _ => True
theorem ElIn.ok {e : El} (h : ElIn e) : ElOk e := by
  cases e <;> first | trivial | exact h.2
theorem det_el {e : El} (h : ElOk e) : det (elM e) = 1 := by
  cases e with
  | afocal m =>
    have h : m ≠ 0 := h
    simp only [det, elM]
    grind
  | _ => simp only [det, elM, idM] <;> grind
theorem fold_comp : ∀ (es : List El) (m : Mp), es.foldl (fun m e => comp m (elM e)) m = comp m (transfer es)
  | [], m => by rw [transfer]; simp only [List.foldl_nil]; rw [id_comp]
  | e :: es, m => by
    rw [transfer, List.foldl_cons, List.foldl_cons, fold_comp es, fold_comp es, comp_id, comp_assoc]
theorem transfer_cons (e : El) (es : List El) : transfer (e :: es) = comp (elM e) (transfer es) := by
  rw [transfer, List.foldl_cons, fold_comp, comp_id]
theorem det_transfer : ∀ {es : List El}, (∀ e ∈ es, ElOk e) → det (transfer es) = 1
  | [], _ => by
    show det idM = 1
    simp only [det, idM]
    grind
  | e :: es, h => by
    rw [transfer_cons, det_comp, det_el (h e List.mem_cons_self), det_transfer fun x hx => h x (List.mem_cons_of_mem _ hx)]
    grind

def MZ (n : Nat) (m : Mp) : Prop := (zb m.a ≤ n ∧ zb m.b ≤ n ∧ zb m.c ≤ n) ∧ zb m.d ≤ n ∧ zb m.e ≤ n ∧ zb m.f ≤ n
def MRb (j : Nat) (m : Mp) : Prop := Rb j (m.a, m.c) ∧ Rb j (m.b, m.d) ∧ Rb j (m.e, m.f)
theorem rb_zb2 {j : Nat} {r : Ray} (hr : Rb j r) : zb r.1 ≤ 9 + 10 * j ∧ zb r.2 ≤ 9 + 10 * j := by
  have p : 780 ^ j ≤ 2 ^ (10 * j) := by
    rw [Nat.pow_mul]
    exact Nat.pow_le_pow_left (by decide) j
  have p60 : 60 ^ j ≤ 2 ^ (10 * j) := by
    rw [Nat.pow_mul]
    exact Nat.pow_le_pow_left (by decide) j
  have e : 6 * 13 ^ j * (12 * 60 ^ j) = 72 * 780 ^ j := by
    rw [show (780 : Nat) = 13 * 60 from rfl, Nat.mul_pow, Nat.mul_mul_mul_comm]
  have e2 : 2 ^ (7 + 10 * j) = 128 * 2 ^ (10 * j) := by rw [Nat.pow_add]
  have e3 : 0 < 2 ^ (10 * j) := Nat.pow_pos (by decide)
  have a : 6 * 13 ^ j * (12 * 60 ^ j) < 2 ^ (7 + 10 * j) := by
    rw [e, e2]
    omega
  have b : 12 * 60 ^ j < 2 ^ (7 + 10 * j) := by
    rw [e2]
    omega
  have c : 0 < 12 * 60 ^ j := Nat.mul_pos (by decide) (Nat.pow_pos (by decide))
  have h1 := in_zb (b := 7 + 10 * j) c hr.1 a b (by omega)
  have h2 := in_zb (b := 7 + 10 * j) c hr.2 a b (by omega)
  exact ⟨by omega, by omega⟩
theorem MRb.z {j : Nat} {m : Mp} (h : MRb j m) : MZ (9 + 10 * j) m := by
  obtain ⟨h1, h2, h3⟩ := h
  have a1 := rb_zb2 h1
  have a2 := rb_zb2 h2
  have a3 := rb_zb2 h3
  exact ⟨⟨a1.1, a2.1, a1.2⟩, a2.2, a3.1, a3.2⟩
end PG

set_option maxRecDepth 100000
set_option maxHeartbeats 4000000
namespace PG
open PySem PySem.Spec PyProof.Rows L2 RT
section
variable {st : List Cell} {Q : Vl → List Cell → Prop}
theorem seq_to {a b : DS} {E : DEnds} {m : M} (m' : M) (h1 : ∀ K : M → Prop, K m' → a ⟨K, E.rt, E.bk, E.ct⟩ m) (h2 : b E m') : dSeq a b E m := h1 _ h2
theorem z4 {n : Nat} {a b c d : Rat} (q1 : zb a ≤ n) (q2 : zb b ≤ n) (q3 : zb c ≤ n) (q4 : zb d ≤ n) : zb (a * b + c * d) ≤ 4 * n := by
  have h1 := zb_mul a b
  have h2 := zb_mul c d
  have h3 := zb_add (a * b) (c * d)
  omega
theorem z2 {n : Nat} {a b c d : Rat} (q1 : zb a ≤ n) (q2 : zb b ≤ n) (q3 : zb c ≤ n) (q4 : zb d ≤ n) (hn : n ≤ 1000000) : zb a + zb b + (zb c + zb d) < ZM := zm (by omega)
theorem MZ.le {a b : Nat} {m : Mp} (h : MZ a m) (hab : a ≤ b) : MZ b m := by
  unfold MZ at *
  omega
theorem v_zero : v_ZERO = fr 0 := rfl
end
end PG

set_option maxRecDepth 100000
set_option maxHeartbeats 4000000
namespace PG
open PySem PySem.Spec PyProof.Rows L2 RT
section
variable {x y : Rat} {st : List Cell} {Q : Vl → List Cell → Prop}
end
end PG

set_option maxRecDepth 100000
set_option maxHeartbeats 4000000
namespace PG
open PySem PySem.Spec PyProof.Rows L2 RT
def Dn (D : Nat) (q : Rat) : Prop := ∃ n : Int, q * (D : Rat) = (n : Rat)
theorem In.dn {D B : Nat} {q : Rat} : In D B q → Dn D q := fun ⟨n, h, _⟩ => ⟨n, h⟩
section
variable {st : List Cell} {Q : Vl → List Cell → Prop}
theorem eqD_fr {x y : Rat} : eqD (fr x) (fr y) = decide (x = y) := by
  rw [Bool.eq_iff_iff, eqD_iff (nb_fr x) (nb_fr y), fr_inj, decide_eq_true_iff]
end
end PG

set_option maxRecDepth 100000
set_option maxHeartbeats 4000000
namespace PG
open PySem PySem.Spec PyProof.Rows L2 RT
def s3 : Rat := Rat.divInt (-2) 3
structure Dist (A : Mp) (q : Rat) : Prop where
  z : zb q ≤ 300
  den : q.den ≤ 2 ^ 90
  good : A.c * q + A.d = 0 ∨ Pn q
section
variable {A : Mp} {q h0 s : Rat}
theorem mul_lt {a b c d n : Nat} (h1 : a ≤ c) (h2 : b ≤ d) (h : c * d < n) : a * b < n := Nat.lt_of_le_of_lt (Nat.mul_le_mul h1 h2) h
end
end PG

set_option maxRecDepth 100000
set_option maxHeartbeats 4000000
namespace PG
open PySem PySem.Spec PyProof.Rows L2 RT
end PG

set_option maxRecDepth 100000
set_option maxHeartbeats 4000000
namespace PG
open PySem PySem.Spec PyProof.Rows L2 RT
section
variable {x y : Rat} {st : List Cell} {Q : Vl → List Cell → Prop}
theorem lfrac_ok {n d : Int} (hd : d ≠ 0) (h : Q (.d (fr (Rat.divInt n d))) st) : sp__law_frac [.d (.int n), .d (.int d)] st Q := by
  unfold sp__law_frac
  have hg : (Int.gcd n d : Int) ≠ 0 := by
    have : Int.gcd n d ≠ 0 := fun e => hd (Int.gcd_eq_zero_iff.mp e).2
    omega
  have hn : (Int.gcd n d : Int) ∣ n := Int.gcd_dvd_left ..
  have hd' : (Int.gcd n d : Int) ∣ d := Int.gcd_dvd_right ..
  have e1 : (Rat.divInt n d).num = d.sign * n / Int.gcd n d := by rw [Rat.num_divInt, Int.gcd_comm]
  have e2 : (((Rat.divInt n d).den : Nat) : Int) = d.sign * d / Int.gcd n d := by
    rw [Rat.den_divInt, if_neg hd, Int.natCast_ediv, Int.gcd_comm, sign_self]
  have fin : ∀ s : Int, (s = 1 ∨ s = -1) → s = d.sign → s * (Int.gcd n d : Int) ≠ 0 ∧ s * (Int.gcd n d : Int) ≠ 0 ∧ Q (.d (.tup [.int (n.fdiv (s * Int.gcd n d)), .int (d.fdiv (s * Int.gcd n d))])) st := fun s hs e => by
    refine ⟨by rcases hs with rfl | rfl <;> omega, by rcases hs with rfl | rfl <;> omega, ?_⟩
    rw [sgn_div hg hn hs, sgn_div hg hd' hs, e, ← e1, ← e2]
    exact h
  refine ⟨rfl, ?_⟩
  refine seq_to ⟨[some (.d (.int n)), some (.d (.int d)), some (.d (.int n.natAbs)), none], st⟩ (fun K hK => by rw [← abs_eq n] at hK; exact hK) ?_
  refine seq_to ⟨[some (.d (.int n)), some (.d (.int d)), some (.d (.int n.natAbs)), some (.d (.int d.natAbs))], st⟩ (fun K hK => by rw [← abs_eq d] at hK; exact hK) ?_
  refine seq_to ⟨[some (.d (.int n)), some (.d (.int d)), some (.d (.int (Int.gcd n d : Int))), some (.d (.int 0))], st⟩ (fun K hK => ?_) ?_
  · refine ⟨fun k m => ∃ x y : Nat, m = ⟨[some (.d (.int n)), some (.d (.int d)), some (.d (.int x)), some (.d (.int y))], st⟩ ∧ k = y ∧ Nat.gcd x y = Int.gcd n d, ⟨d.natAbs, n.natAbs, d.natAbs, rfl, rfl, rfl⟩, ?_⟩
    rintro y m ⟨x, _, rfl, rfl, hgc⟩
    refine ⟨trivial, ?_⟩
    show if (decide ((0 : Int) < y)) = true then _ else _
    by_cases hy : (0 : Int) < y
    · rw [if_pos (decide_eq_true hy)]
      refine ⟨by omega, ?_⟩
      refine ⟨x % y, Nat.mod_lt _ (by omega), y, x % y, ?_, rfl, ?_⟩
      · rw [Int.natCast_emod, ← Int.fmod_eq_emod_of_nonneg _ (by omega)]
        rfl
      · rw [← hgc, Nat.gcd_comm x y, Nat.gcd_rec y x, Nat.gcd_comm]
    · rw [if_neg (by simp; omega)]
      have e : y = 0 := by omega
      subst e
      rw [Nat.gcd_zero_right] at hgc
      rw [← hgc] at hK
      exact hK
  refine ⟨trivial, ?_⟩
  show if (decide (d < 0)) = true then _ else _
  by_cases hs : d < 0
  · rw [if_pos (decide_eq_true hs)]
    obtain ⟨a, b, c⟩ := fin (-1) (.inr rfl) (Int.sign_eq_neg_one_of_neg hs).symm
    rw [Int.neg_one_mul] at a b c
    exact ⟨a, b, lineN rfl, tk c⟩
  · rw [if_neg (by simp; omega)]
    obtain ⟨a, b, c⟩ := fin 1 (.inl rfl) (Int.sign_eq_one_of_pos (by omega)).symm
    rw [Int.one_mul] at a b c
    exact ⟨a, b, lineN rfl, tk c⟩
theorem ladd2_ok (hz : zb x + zb y < ZM) (h : Q (.d (fr (x + y))) st) : sp__law_add_2 [.d (fr x), .d (fr y)] st Q := by
  unfold sp__law_add_2
  refine ⟨rfl, mk_nn (zb_num x) (dn y) hz, mk_nn (zb_num y) (dn x) (by omega), mk_nn (dn x) (dn y) hz, ?_⟩
  refine lfrac_ok (mul_nn x y) (tk ?_)
  rw [← add_val]
  exact h
theorem lneg_ok (h : Q (.d (fr (-x))) st) : sp__law_neg [.d (fr x)] st Q := by
  unfold sp__law_neg
  refine ⟨rfl, lineN rfl, tk ?_⟩
  have e : fr (-x) = .tup [.int (-x.num), .int x.den] := by
    unfold fr
    rw [Rat.neg_num, Rat.neg_den]
  rw [e] at h
  exact h
theorem lsub2_ok (hz : zb x + zb y < ZM) (h : Q (.d (fr (x - y))) st) : sp__law_sub_2 [.d (fr x), .d (fr y)] st Q := by
  unfold sp__law_sub_2
  refine ⟨rfl, lneg_ok ?_⟩
  refine ladd2_ok (by rw [zb_neg]; exact hz) (tk ?_)
  rw [← Rat.sub_eq_add_neg]
  exact h
end
end PG

set_option maxRecDepth 100000
set_option maxHeartbeats 4000000
namespace PG
open PySem PySem.Spec PyProof.Rows L2 RT
theorem draw2_ok {ds : List Int} {i k : Nat} {n : Int} {st : List Cell} {Q : Vl → List Cell → Prop} (hk : st[k]? = some (Bx ds i)) (hn : 0 < n) (hi3 : i < 1000000) (h : ∀ r : Int, 0 ≤ r → r < n → Q (.d (.int r)) (st.set k (Bx ds (i + 1)))) :
    sp__law_draw_2 [.c k, .d (.int n)] st Q := by
  have hlt : k < st.length := (List.getElem?_eq_some_iff.mp hk).1
  have hs : (st.set k (Bx ds (i + 1)))[k]? = some (Bx ds (i + 1)) := by simp [hlt]
  have hl : (st.set k (Bx ds (i + 1))).length = st.length := List.length_set
  unfold sp__law_draw_2
  refine ⟨rfl, ?_⟩
  refine onV_c hk ?_
  refine onC_mk hk ?_
  refine onJ_mk (j := 1) rfl ?_
  have e0 : ([Dt.lst (ds.map .int), Dt.int i].set 1 (Dt.int (i + 1))) = [Dt.lst (ds.map .int), Dt.int ((i + 1 : Nat) : Int)] := rfl
  dsimp only
  rw [e0]
  change dSeq (dIfS _ _ _) _ _ ⟨_, st.set k (Bx ds (i + 1))⟩
  refine onV_c hs ?_
  refine onV_d (rIx_mk (z := Dt.lst (ds.map .int)) rfl ?_)
  refine ⟨trivial, ?_⟩
  show if (decide ((i : Int) < ((ds.map Dt.int).length : Int))) = true then _ else _
  rw [List.length_map]
  by_cases hi : (i : Int) < (ds.length : Int)
  · rw [if_pos (decide_eq_true hi)]
    refine onV_c hs ?_
    refine onV_d (rIx_mk (z := Dt.lst (ds.map .int)) rfl ?_)
    refine ix_ints (ns := ds) (k := (i : Int)) (by omega) (by omega) ?_
    refine ⟨by show n ≠ 0; omega, ?_⟩
    obtain ⟨b0, b1⟩ := fmod_bd (ds.getD (i : Int).toNat 0) hn
    have := h _ b0 b1
    rw [← hl]
    exact tk this
  · rw [if_neg (by simp; omega)]
    have li := log2_small (v := (i : Int)) (n := 20) (by omega) (by omega) (by decide)
    refine ⟨mulok (by rw [show (7 : Int).natAbs.log2 = 2 by decide]; unfold ZM; omega), ?_⟩
    refine ⟨by show n ≠ 0; omega, ?_⟩
    obtain ⟨b0, b1⟩ := fmod_bd ((i : Int) * 7 + 3) hn
    have := h _ b0 b1
    rw [← hl]
    exact tk this
end PG

set_option maxRecDepth 100000
set_option maxHeartbeats 4000000
namespace PG
open PySem PySem.Spec PyProof.Rows L2 RT
end PG

set_option maxRecDepth 100000
set_option maxHeartbeats 4000000
namespace PG
open PySem PySem.Spec PyProof.Rows L2 RT
theorem ZM_eq : ZM = 60000000 := rfl
theorem slt {n : Nat} (h : Nat.ble n 1000 = true) : n < sizeLine := small_lt (Nat.lt_of_le_of_lt (Nat.le_of_ble_eq_true h) (by decide))
theorem gx_all {α : Type} (f : α → Dt) (p : α → Bool) {sl slw : List (Option Vl)} {g : Tgt} {te : DE} {all : List Dt} {K : Bool → M → Prop} {st : List Cell} :
    ∀ {xs : List α}, (∀ x ∈ xs, ∀ (C : Vl → M → Prop), (∀ sl', C (.d (.bl (p x))) ⟨sl', st⟩) → tgD g (.d (f x)) ⟨slw, st⟩ fun m1 => te m1 C) → K (xs.all p) ⟨sl, st⟩ → dGxGo true sl slw g te all none K (xs.map f) st
  | [], _, h => ⟨trivial, h⟩
  | x :: r, hs, h => ⟨trivial, hs x List.mem_cons_self _ fun sl' => by
    show if p x = true then _ else _
    rw [List.all_cons] at h
    cases hp : p x with
    | true =>
      rw [hp, Bool.true_and] at h
      rw [if_pos rfl]
      exact gx_all f p (fun y hy => hs y (List.mem_cons_of_mem _ hy)) h
    | false =>
      rw [hp, Bool.false_and] at h
      rw [if_neg (by decide)]
      exact h⟩
theorem gx_any {α : Type} (f : α → Dt) (p : α → Bool) {sl slw : List (Option Vl)} {g : Tgt} {te : DE} {all : List Dt} {K : Bool → M → Prop} {st : List Cell} :
    ∀ {xs : List α}, (∀ x ∈ xs, ∀ (C : Vl → M → Prop), (∀ sl', C (.d (.bl (p x))) ⟨sl', st⟩) → tgD g (.d (f x)) ⟨slw, st⟩ fun m1 => te m1 C) → K (xs.any p) ⟨sl, st⟩ → dGxGo false sl slw g te all none K (xs.map f) st
  | [], _, h => ⟨trivial, h⟩
  | x :: r, hs, h => ⟨trivial, hs x List.mem_cons_self _ fun sl' => by
    show if p x = false then _ else _
    rw [List.any_cons] at h
    cases hp : p x with
    | false =>
      rw [hp, Bool.false_or] at h
      rw [if_pos rfl]
      exact gx_any f p (fun y hy => hs y (List.mem_cons_of_mem _ hy)) h
    | true =>
      rw [hp, Bool.true_or] at h
      rw [if_neg (by decide)]
      exact h⟩

structure Hp3 where
  p : Int
  q : Int
  r : Int
  deriving DecidableEq
def hpD (h : Hp3) : Dt := .tup [.int h.p, .int h.q, .int h.r]
def HZ (n : Nat) (h : Hp3) : Prop := h.p.natAbs.log2 + 2 ≤ n ∧ h.q.natAbs.log2 + 2 ≤ n ∧ h.r.natAbs.log2 + 2 ≤ n
def valH (h : Hp3) (x : Ray) : Rat := (h.p : Rat) * x.1 + (h.q : Rat) * x.2
def hasH (x : Ray) (h : Hp3) : Bool := decide (valH h x ≤ (h.r : Rat))
theorem zb_int (n : Int) : zb (n : Rat) ≤ n.natAbs.log2 + 2 := by
  unfold zb
  rw [Rat.num_intCast, Rat.den_intCast]
  have : Nat.log2 1 = 0 := by decide
  omega
section
variable {st : List Cell} {Q : Vl → List Cell → Prop}
end

def mkX (p q r : Rat) : Int := p.num * (q.den * r.den)
def mkY (p q r : Rat) : Int := q.num * (p.den * r.den)
def mkZ (p q r : Rat) : Int := r.num * (p.den * q.den)
def mkG (p q r : Rat) : Int := (Int.gcd (Int.gcd (mkX p q r) (mkY p q r) : Int) (mkZ p q r) : Int)
def mkH (p q r : Rat) : Hp3 := ⟨mkX p q r / mkG p q r, mkY p q r / mkG p q r, mkZ p q r / mkG p q r⟩
theorem den_pos' (x : Rat) : (0 : Int) < (x.den : Int) := by
  have := x.den_pos
  omega
theorem denR_pos (x : Rat) : (0 : Rat) < (x.den : Rat) := by
  have := x.den_pos
  exact Rat.natCast_pos.mpr this
theorem num_den (x : Rat) : (x.num : Rat) = x * (x.den : Rat) := by
  have h := denR_pos x
  have e : x = (x.num : Rat) / (x.den : Rat) := by
    conv => lhs; rw [← Rat.num_divInt_den x]
    rw [Rat.divInt_eq_div, Rat.intCast_natCast]
  generalize (x.num : Rat) = a at *
  generalize (x.den : Rat) = b at *
  grind
section
variable {p q r : Rat}
theorem mkG_pos (h : ¬ (p = 0 ∧ q = 0)) : 0 < mkG p q r := by
  unfold mkG
  have : Int.gcd (Int.gcd (mkX p q r) (mkY p q r) : Int) (mkZ p q r) ≠ 0 := fun e => by
    have e1 := (Int.gcd_eq_zero_iff.mp e).1
    have e2 : Int.gcd (mkX p q r) (mkY p q r) = 0 := by omega
    obtain ⟨e3, e4⟩ := Int.gcd_eq_zero_iff.mp e2
    have dp := den_pos' p
    have dq := den_pos' q
    have dr := den_pos' r
    have n1 : (q.den : Int) * r.den ≠ 0 := Int.mul_ne_zero (by omega) (by omega)
    have n2 : (p.den : Int) * r.den ≠ 0 := Int.mul_ne_zero (by omega) (by omega)
    refine h ⟨Rat.num_eq_zero.mp ?_, Rat.num_eq_zero.mp ?_⟩
    · rcases Int.mul_eq_zero.mp e3 with z | z
      · exact z
      · exact (n1 z).elim
    · rcases Int.mul_eq_zero.mp e4 with z | z
      · exact z
      · exact (n2 z).elim
  omega
theorem mk_dvd : mkG p q r ∣ mkX p q r ∧ mkG p q r ∣ mkY p q r ∧ mkG p q r ∣ mkZ p q r := by
  unfold mkG
  have h1 : (Int.gcd (Int.gcd (mkX p q r) (mkY p q r) : Int) (mkZ p q r) : Int) ∣ (Int.gcd (mkX p q r) (mkY p q r) : Int) := Int.gcd_dvd_left ..
  exact ⟨Int.dvd_trans h1 (Int.gcd_dvd_left ..), Int.dvd_trans h1 (Int.gcd_dvd_right ..), Int.gcd_dvd_right ..⟩
theorem ediv_cast {a g : Int} (hg : g ≠ 0) (h : g ∣ a) : ((a / g : Int) : Rat) * (g : Rat) = (a : Rat) := by
  obtain ⟨k, rfl⟩ := h
  rw [Int.mul_ediv_cancel_left _ hg, Rat.intCast_mul]
  grind
theorem mkH_spec (h : ¬ (p = 0 ∧ q = 0)) : ∃ t : Rat, 0 < t ∧ ((mkH p q r).p : Rat) = t * p ∧ ((mkH p q r).q : Rat) = t * q ∧ ((mkH p q r).r : Rat) = t * r := by
  have hg := mkG_pos (r := r) h
  obtain ⟨d1, d2, d3⟩ := mk_dvd (p := p) (q := q) (r := r)
  have hgn : mkG p q r ≠ 0 := by omega
  have c1 := ediv_cast hgn d1
  have c2 := ediv_cast hgn d2
  have c3 := ediv_cast hgn d3
  have hgr : (0 : Rat) < (mkG p q r : Rat) := Rat.intCast_pos.mpr hg
  have dp := denR_pos p
  have dq := denR_pos q
  have dr := denR_pos r
  have x1 : (mkX p q r : Rat) = p * (p.den : Rat) * ((q.den : Rat) * (r.den : Rat)) := by
    unfold mkX
    rw [Rat.intCast_mul, Rat.intCast_mul, num_den p]
    simp only [Rat.intCast_natCast]
  have x2 : (mkY p q r : Rat) = q * (q.den : Rat) * ((p.den : Rat) * (r.den : Rat)) := by
    unfold mkY
    rw [Rat.intCast_mul, Rat.intCast_mul, num_den q]
    simp only [Rat.intCast_natCast]
  have x3 : (mkZ p q r : Rat) = r * (r.den : Rat) * ((p.den : Rat) * (q.den : Rat)) := by
    unfold mkZ
    rw [Rat.intCast_mul, Rat.intCast_mul, num_den r]
    simp only [Rat.intCast_natCast]
  have hs : (0 : Rat) < (p.den : Rat) * (q.den : Rat) * (r.den : Rat) := Rat.mul_pos (Rat.mul_pos dp dq) dr
  refine ⟨(p.den : Rat) * (q.den : Rat) * (r.den : Rat) / (mkG p q r : Rat), ?_, ?_, ?_, ?_⟩
  · rw [Rat.div_def]
    exact Rat.mul_pos hs (Rat.inv_pos.mpr hgr)
  · show ((mkX p q r / mkG p q r : Int) : Rat) = _
    rw [x1] at c1
    generalize (mkG p q r : Rat) = g at *
    grind
  · show ((mkY p q r / mkG p q r : Int) : Rat) = _
    rw [x2] at c2
    generalize (mkG p q r : Rat) = g at *
    grind
  · show ((mkZ p q r / mkG p q r : Int) : Rat) = _
    rw [x3] at c3
    generalize (mkG p q r : Rat) = g at *
    grind
theorem sh_fr' {q : Rat} : shD (fr q) := sh_ok sh_fr
end
end PG

set_option maxRecDepth 100000
set_option maxHeartbeats 4000000
namespace PG
open PySem PySem.Spec PyProof.Rows L2 RT
abbrev Ed := Nat × Bool
def lowE (k : Nat) (lo : Option Rat) (m : Mp) : List (Ed × Hp3) := match lo with
  | none => []
  | some l => [((k, false), mkH (-m.a) (-m.b) (m.e - l))]
def uppE (k : Nat) (hi : Option Rat) (m : Mp) : List (Ed × Hp3) := match hi with
  | none => []
  | some u => [((k, true), mkH m.a m.b (u - m.e))]
section
variable {st : List Cell} {Q : Vl → List Cell → Prop}
def edgesAt (k : Nat) (e : El) (m : Mp) : List (Ed × Hp3) := match e with
  | .stop lo hi => lowE k lo m ++ uppE k hi m
  | _ => []
def planesOf : Nat → Mp → List El → List (Ed × Hp3)
  | _, _, [] => []
  | k, m, e :: es => edgesAt k e m ++ planesOf (k + 1) (comp m (elM e)) es
theorem nz_of_det {m : Mp} (h : det m = 1) : ¬ (m.a = 0 ∧ m.b = 0) := fun ⟨h1, h2⟩ => by
  unfold det at h
  rw [h1, h2] at h
  grind
end

end PG

set_option maxRecDepth 100000
set_option maxHeartbeats 4000000
namespace PG
open PySem PySem.Spec PyProof.Rows L2 RT
theorem lc_map {α : Type} (f h : α → Dt) {sl slw : List (Option Vl)} {g : Tgt} {te : DE} {all : List Dt} {K : List Dt → M → Prop} {st : List Cell} :
    ∀ {xs done : List α}, (∀ x ∈ xs, ∀ (C : Vl → M → Prop), (∀ sl', C (.d (h x)) ⟨sl', st⟩) → tgD g (.d (f x)) ⟨slw, st⟩ fun m1 => te m1 C) → done.length + xs.length ≤ 1000000 → K ((done ++ xs).map h) ⟨sl, st⟩ → dLcGo sl slw g dYes te all none K (xs.map f) (done.map h) st
  | [], done, _, _, hK => ⟨trivial, by rw [List.append_nil] at hK; exact hK⟩
  | x :: r, done, hs, hl, hK => ⟨trivial, hs x List.mem_cons_self _ fun sl' => by
    rw [List.length_cons] at hl
    refine ⟨by rw [List.length_map]; exact small_lt (by omega), ?_⟩
    have := lc_map f h (K := K) (all := all) (te := te) (g := g) (sl := sl) (slw := slw) (st := st) (xs := r) (done := done ++ [x]) (fun y hy => hs y (List.mem_cons_of_mem _ hy)) (by rw [List.length_append, List.length_singleton]; omega) (by rw [List.append_assoc]; exact hK)
    rw [List.map_append] at this
    exact this⟩
theorem dlc_map {α : Type} (f h : α → Dt) {xs : List α} {m : M} {g : Tgt} {t te : DE} {vs : List Nat} {Q : Vl → M → Prop} (ht : ∀ K : Vl → M → Prop, K (.d (.lst (xs.map f))) m → t m K)
    (hs : ∀ x ∈ xs, ∀ (C : Vl → M → Prop), (∀ sl', C (.d (h x)) ⟨sl', m.st⟩) → tgD g (.d (f x)) ⟨wipeD m.sl vs, m.st⟩ fun m1 => te m1 C) (hl : xs.length ≤ 1000000) (hK : Q (.d (.lst (xs.map h))) m) : dLc false (dAny t) g dYes te vs m Q :=
  ht _ (lc_map f h (done := []) hs (by simpa using hl) hK)
theorem append_st {i k : Nat} {te : DE} {E : DEnds} {m : M} {xs : List Dt} (d : Dt) (hv : m.sl[i]? = some (some (.c k))) (hc : m.st[k]? = some (.lst xs)) (ht : ∀ C : Vl → M → Prop, C (.d d) m → te m C) (hl : xs.length < sizeLine)
    (h : E.nx ⟨m.sl, m.st.set k (.lst (xs ++ [d]))⟩) : dDo (dMeth mAppend (dVar i) (dCons te dNil)) E m := by
  unfold dDo dMeth dVar
  rw [hv]
  refine ⟨⟨_, hc⟩, ht _ ?_⟩
  show onC m.st k _
  exact onC_mk hc ⟨hl, h⟩
end PG

set_option maxRecDepth 100000
set_option maxHeartbeats 4000000
namespace PG
open PySem PySem.Spec PyProof.Rows L2 RT

def Rg (hs : List Hp3) (x : Ray) : Prop := ∀ g ∈ hs, valH g x ≤ (g.r : Rat)
def Dir (g : Hp3) : Prop := ¬ (g.p = 0 ∧ g.q = 0)
def dt (g k : Hp3) : Int := g.p * k.q - g.q * k.p
def dotI (g k : Hp3) : Int := g.p * k.p + g.q * k.q
def lin2 (p q : Rat) (x : Ray) : Rat := p * x.1 + q * x.2
theorem exists_max {α : Type} (P : α → Prop) [DecidablePred P] (f : α → Rat) : ∀ l : List α, (∀ x ∈ l, ¬ P x) ∨ ∃ m ∈ l, P m ∧ ∀ x ∈ l, P x → f x ≤ f m
  | [] => .inl fun _ h => nomatch h
  | a :: l => by
    rcases exists_max P f l with h | ⟨m, hm, pm, h⟩
    · by_cases pa : P a
      · refine .inr ⟨a, List.mem_cons_self, pa, fun x hx px => ?_⟩
        rcases List.mem_cons.mp hx with e | e
        · rw [e]; exact Rat.le_refl
        · exact (h x e px).elim
      · refine .inl fun x hx px => ?_
        rcases List.mem_cons.mp hx with e | e
        · rw [e] at px; exact pa px
        · exact h x e px
    · by_cases pa : P a ∧ f m ≤ f a
      · refine .inr ⟨a, List.mem_cons_self, pa.1, fun x hx px => ?_⟩
        rcases List.mem_cons.mp hx with e | e
        · rw [e]; exact Rat.le_refl
        · exact Rat.le_trans (h x e px) pa.2
      · refine .inr ⟨m, List.mem_cons_of_mem _ hm, pm, fun x hx px => ?_⟩
        rcases List.mem_cons.mp hx with e | e
        · rw [e] at px ⊢
          rcases Rat.le_total (a := f m) (b := f a) with z | z
          · exact (pa ⟨px, z⟩).elim
          · exact z
        · exact h x e px
theorem exists_min {α : Type} (P : α → Prop) [DecidablePred P] (f : α → Rat) (l : List α) : (∀ x ∈ l, ¬ P x) ∨ ∃ m ∈ l, P m ∧ ∀ x ∈ l, P x → f m ≤ f x := by
  rcases exists_max P (fun x => - f x) l with h | ⟨m, hm, pm, h⟩
  · exact .inl h
  · exact .inr ⟨m, hm, pm, fun x hx px => by have := h x hx px; grind⟩
theorem elim1 (l : List (Rat × Rat)) (h0 : ∀ c ∈ l, c.1 = 0 → 0 ≤ c.2) (h2 : ∀ c ∈ l, ∀ d ∈ l, 0 < c.1 → d.1 < 0 → 0 ≤ c.2 * (-d.1) + d.2 * c.1) : ∃ v : Rat, ∀ c ∈ l, c.1 * v ≤ c.2 := by
  rcases exists_max (fun c : Rat × Rat => c.1 < 0) (fun c => c.2 / c.1) l with hn | ⟨m, hm, pm, hmax⟩
  · rcases exists_min (fun c : Rat × Rat => 0 < c.1) (fun c => c.2 / c.1) l with hp | ⟨k, hk, pk, hmin⟩
    · refine ⟨0, fun c hc => ?_⟩
      have e : c.1 = 0 := by
        have a := hn c hc
        have b := hp c hc
        grind
      rw [e]
      have := h0 c hc e
      grind
    · refine ⟨k.2 / k.1, fun c hc => ?_⟩
      by_cases e : c.1 = 0
      · rw [e]
        have := h0 c hc e
        grind
      · have p : 0 < c.1 := by
          have a := hn c hc
          grind
        have := hmin c hc p
        have q : c.1 * (k.2 / k.1) ≤ c.1 * (c.2 / c.1) := Rat.mul_le_mul_of_nonneg_left this (Rat.le_of_lt p)
        have : c.1 * (c.2 / c.1) = c.2 := by grind
        grind
  · refine ⟨m.2 / m.1, fun c hc => ?_⟩
    by_cases e : c.1 = 0
    · rw [e]
      have := h0 c hc e
      grind
    · by_cases p : 0 < c.1
      · have w := h2 c hc m hm p pm
        have e1 : m.2 = m.1 * (m.2 / m.1) := by grind
        generalize m.2 / m.1 = v at *
        rw [e1] at w
        -- 0 ≤ (-m.1) * (c.2 - c.1 * v)
        have w2 : 0 ≤ (-m.1) * (c.2 - c.1 * v) := by grind
        have w3 : (-m.1) * 0 ≤ (-m.1) * (c.2 - c.1 * v) := by grind
        have := Rat.le_of_mul_le_mul_left w3 (by grind)
        grind
      · have n : c.1 < 0 := by grind
        have w := hmax c hc n
        have q : (-c.1) * (c.2 / c.1) ≤ (-c.1) * (m.2 / m.1) := Rat.mul_le_mul_of_nonneg_left w (by grind)
        have : c.1 * (c.2 / c.1) = c.2 := by grind
        grind

def sglB (p q : Rat) (g : Hp3) : Option Rat := if (g.p : Rat) * q - (g.q : Rat) * p = 0 ∧ 0 < (g.p : Rat) * p + (g.q : Rat) * q then some (((g.p : Rat) * p + (g.q : Rat) * q) / (dotI g g : Rat) * (g.r : Rat)) else none
def prW (p q : Rat) (g k : Hp3) : Option (Rat × Rat) := if dt g k = 0 then none else
  if (p * (k.q : Rat) - q * (k.p : Rat)) / (dt g k : Rat) ≤ 0 ∨ (q * (g.p : Rat) - p * (g.q : Rat)) / (dt g k : Rat) ≤ 0 then none
  else some ((p * (k.q : Rat) - q * (k.p : Rat)) / (dt g k : Rat), (q * (g.p : Rat) - p * (g.q : Rat)) / (dt g k : Rat))
def prB (p q : Rat) (g k : Hp3) : Option Rat := (prW p q g k).map fun w => w.1 * (g.r : Rat) + w.2 * (k.r : Rat)
def prs (p q : Rat) : List Hp3 → List (Option Rat)
  | [] => []
  | g :: r => r.map (prB p q g) ++ prs p q r
def bounds (p q : Rat) (hs : List Hp3) : List (Option Rat) := hs.map (sglB p q) ++ prs p q hs
theorem prs_mem {p q : Rat} {g k : Hp3} (hne : g ≠ k) : ∀ {hs : List Hp3}, g ∈ hs → k ∈ hs → prB p q g k ∈ prs p q hs ∨ prB p q k g ∈ prs p q hs
  | a :: r, hg, hk => by
    rcases List.mem_cons.mp hg with eg | hg <;> rcases List.mem_cons.mp hk with ek | hk
    · exact (hne (eg.trans ek.symm)).elim
    · exact .inl (List.mem_append_left _ (List.mem_map.mpr ⟨k, hk, by rw [eg]⟩))
    · exact .inr (List.mem_append_left _ (List.mem_map.mpr ⟨g, hg, by rw [ek]⟩))
    · rcases prs_mem hne hg hk with h | h
      · exact .inl (List.mem_append_right _ h)
      · exact .inr (List.mem_append_right _ h)
theorem mem_prs {p q : Rat} {o : Option Rat} : ∀ {hs : List Hp3}, o ∈ prs p q hs → ∃ g ∈ hs, ∃ k ∈ hs, o = prB p q g k
  | a :: r, h => by
    rcases List.mem_append.mp (show o ∈ r.map (prB p q a) ++ prs p q r from h) with h | h
    · obtain ⟨k, hk, rfl⟩ := List.mem_map.mp h
      exact ⟨a, List.mem_cons_self, k, List.mem_cons_of_mem _ hk, rfl⟩
    · obtain ⟨g, hg, k, hk, e⟩ := mem_prs h
      exact ⟨g, List.mem_cons_of_mem _ hg, k, List.mem_cons_of_mem _ hk, e⟩
theorem castI {a b : Int} : ((a * b : Int) : Rat) = (a : Rat) * (b : Rat) := Rat.intCast_mul ..
theorem dt_cast (g k : Hp3) : (dt g k : Rat) = (g.p : Rat) * (k.q : Rat) - (g.q : Rat) * (k.p : Rat) := by
  unfold dt
  rw [Rat.intCast_sub, castI, castI]
theorem dot_cast (g k : Hp3) : (dotI g k : Rat) = (g.p : Rat) * (k.p : Rat) + (g.q : Rat) * (k.q : Rat) := by
  unfold dotI
  rw [Rat.intCast_add, castI, castI]
theorem sq_pos {a : Rat} (h : a ≠ 0) : 0 < a * a := by
  rcases Rat.le_total (a := 0) (b := a) with z | z
  · have : 0 < a := by grind
    exact Rat.mul_pos this this
  · have : 0 < -a := by grind
    have := Rat.mul_pos this this
    grind
theorem sq_nn (a : Rat) : 0 ≤ a * a := by
  by_cases h : a = 0
  · rw [h]; grind
  · exact Rat.le_of_lt (sq_pos h)
theorem n2_pos {p q : Rat} (h : ¬ (p = 0 ∧ q = 0)) : 0 < p * p + q * q := by
  have a := sq_nn p
  have b := sq_nn q
  by_cases hp : p = 0
  · have hq : q ≠ 0 := fun e => h ⟨hp, e⟩
    have := sq_pos hq
    grind
  · have := sq_pos hp
    grind
theorem Dir.rat {g : Hp3} (h : Dir g) : ¬ ((g.p : Rat) = 0 ∧ (g.q : Rat) = 0) := fun ⟨a, b⟩ => h ⟨Rat.intCast_eq_zero_iff.mp a, Rat.intCast_eq_zero_iff.mp b⟩
theorem Dir.pos {g : Hp3} (h : Dir g) : (0 : Rat) < (dotI g g : Rat) := by
  rw [dot_cast]
  exact n2_pos h.rat
theorem mul_le {a b c : Rat} (h : b ≤ c) (ha : 0 ≤ a) : a * b ≤ a * c := Rat.mul_le_mul_of_nonneg_left h ha
theorem of_mul_le {a b c : Rat} (h : a * b ≤ a * c) (ha : 0 < a) : b ≤ c := Rat.le_of_mul_le_mul_left h ha
end PG

set_option maxRecDepth 100000
set_option maxHeartbeats 4000000
namespace PG
open PySem PySem.Spec PyProof.Rows L2 RT
theorem prW_some {p q : Rat} {g k : Hp3} {w : Rat × Rat} (h : prW p q g k = some w) : dt g k ≠ 0 ∧ 0 < w.1 ∧ 0 < w.2 ∧ w.1 * (g.p : Rat) + w.2 * (k.p : Rat) = p ∧ w.1 * (g.q : Rat) + w.2 * (k.q : Rat) = q := by
  unfold prW at h
  by_cases h0 : dt g k = 0
  · rw [if_pos h0] at h
    cases h
  · rw [if_neg h0] at h
    split at h
    · cases h
    · rename_i hn
      cases h
      have hd : (dt g k : Rat) ≠ 0 := fun e => h0 (Rat.intCast_eq_zero_iff.mp e)
      have e := dt_cast g k
      generalize (dt g k : Rat) = d at *
      refine ⟨h0, by grind, by grind, ?_, ?_⟩
      · show (p * (k.q : Rat) - q * (k.p : Rat)) / d * (g.p : Rat) + (q * (g.p : Rat) - p * (g.q : Rat)) / d * (k.p : Rat) = p
        grind
      · show (p * (k.q : Rat) - q * (k.p : Rat)) / d * (g.q : Rat) + (q * (g.p : Rat) - p * (g.q : Rat)) / d * (k.q : Rat) = q
        grind
theorem bound_ok {p q : Rat} {hs : List Hp3} (hd : ∀ g ∈ hs, Dir g) {x : Ray} (hx : Rg hs x) {b : Rat} (hb : some b ∈ bounds p q hs) : lin2 p q x ≤ b := by
  rcases List.mem_append.mp hb with h | h
  · obtain ⟨g, hg, e⟩ := List.mem_map.mp h
    unfold sglB at e
    split at e
    · rename_i hc
      cases e
      have hp := (hd g hg).pos
      have e := dot_cast g g
      have hx' := hx g hg
      unfold valH at hx'
      unfold lin2
      generalize (dotI g g : Rat) = d at *
      generalize (g.p : Rat) = gp at *
      generalize (g.q : Rat) = gq at *
      generalize (g.r : Rat) = gr at *
      -- p = t gp, q = t gq with t = along / d
      have t0 : 0 < (gp * p + gq * q) / d := by
        rw [Rat.div_def]
        exact Rat.mul_pos hc.2 (Rat.inv_pos.mpr hp)
      have e1 : (gp * p + gq * q) / d * gp = p := by grind
      have e2 : (gp * p + gq * q) / d * gq = q := by grind
      generalize (gp * p + gq * q) / d = t at *
      have := mul_le hx' (Rat.le_of_lt t0)
      have e3 : p * x.1 + q * x.2 = t * (gp * x.1 + gq * x.2) := by
        rw [← e1, ← e2]
        grind
      rw [e3]
      exact this
    · cases e
  · obtain ⟨g, hg, k, hk, e⟩ := mem_prs h
    unfold prB at e
    cases hw : prW p q g k with
    | none =>
      rw [hw] at e
      cases e
    | some w =>
      rw [hw] at e
      obtain ⟨_, w1, w2, e1, e2⟩ := prW_some hw
      have e' : b = w.1 * (g.r : Rat) + w.2 * (k.r : Rat) := Option.some.inj e
      rw [e']
      have a1 := mul_le (hx g hg) (Rat.le_of_lt w1)
      have a2 := mul_le (hx k hk) (Rat.le_of_lt w2)
      unfold valH at a1 a2
      unfold lin2
      rw [← e1, ← e2]
      grind
theorem reach {p q : Rat} (hpq : ¬ (p = 0 ∧ q = 0)) {hs : List Hp3} (hd : ∀ g ∈ hs, Dir g) {x0 : Ray} (hx : Rg hs x0) {m : Rat} (h1 : lin2 p q x0 ≤ m) (h2 : ∀ b, some b ∈ bounds p q hs → m ≤ b) : ∃ x, Rg hs x ∧ lin2 p q x = m := by
  have hn := n2_pos hpq
  obtain ⟨n2, en⟩ : ∃ n2, p * p + q * q = n2 := ⟨_, rfl⟩
  rw [en] at hn
  -- what a half-plane asks of the second coordinate
  have key : ∃ v : Rat, ∀ c ∈ hs.map (fun g : Hp3 => (((g.q : Rat) * p - (g.p : Rat) * q, (g.r : Rat) * n2 - ((g.p : Rat) * p + (g.q : Rat) * q) * m) : Rat × Rat)), c.1 * v ≤ c.2 := by
    refine elim1 _ (fun c hc e => ?_) fun c hc d hd' pc nd => ?_
    · obtain ⟨g, hg, rfl⟩ := List.mem_map.mp hc
      dsimp only at e ⊢
      have hxg := hx g hg
      have hdg := (hd g hg).rat
      have hpos := (hd g hg).pos
      have hb : 0 < (g.p : Rat) * p + (g.q : Rat) * q → m ≤ ((g.p : Rat) * p + (g.q : Rat) * q) / (dotI g g : Rat) * (g.r : Rat) := fun ha => by
        refine h2 _ (List.mem_append_left _ (List.mem_map.mpr ⟨g, hg, ?_⟩))
        unfold sglB
        rw [if_pos ⟨by grind, ha⟩]
      have ed := dot_cast g g
      unfold valH at hxg
      unfold lin2 at h1
      generalize (dotI g g : Rat) = d at *
      generalize (g.p : Rat) = gp at *
      generalize (g.q : Rat) = gq at *
      generalize (g.r : Rat) = gr at *
      obtain ⟨A, eA⟩ : ∃ A, gp * p + gq * q = A := ⟨_, rfl⟩
      rw [eA] at hb ⊢
      have id : A * A = d * n2 := by grind
      have nA : A ≠ 0 := fun z => by
        have := Rat.mul_pos hpos hn
        rw [← id, z] at this
        grind
      by_cases pA : 0 < A
      · have := mul_le (hb pA) (Rat.le_of_lt pA)
        have e3 : A * (A / d * gr) = gr * n2 := by
          have : A * (A / d * gr) = (A * A) / d * gr := by grind
          rw [this, id]
          grind
        rw [e3] at this
        grind
      · have nA' : 0 ≤ -A := by grind
        have a1 := mul_le h1 nA'
        -- A u0 = n2 (g x0) as the other coordinate vanishes
        have e4 : A * (p * x0.1 + q * x0.2) = n2 * (gp * x0.1 + gq * x0.2) := by grind
        have a2 := mul_le hxg (Rat.le_of_lt hn)
        grind
    · obtain ⟨g, hg, rfl⟩ := List.mem_map.mp hc
      obtain ⟨k, hk, rfl⟩ := List.mem_map.mp hd'
      dsimp only at pc nd ⊢
      have hxg := hx g hg
      have hxk := hx k hk
      have hne : g ≠ k := fun e => by
        rw [e] at pc
        grind
      have hb : 0 < (dt k g : Rat) → m ≤ (((k.q : Rat) * p - (k.p : Rat) * q) * (g.r : Rat) - ((g.q : Rat) * p - (g.p : Rat) * q) * (k.r : Rat)) / (dt g k : Rat) := fun hdt => by
        have e1 := dt_cast g k
        have e2 := dt_cast k g
        have hgk : (dt g k : Rat) < 0 := by grind
        have ngk : dt g k ≠ 0 := fun z => by rw [z] at hgk; exact absurd hgk (by decide)
        have nkg : dt k g ≠ 0 := fun z => by rw [z] at hdt; exact absurd hdt (by decide)
        have ekg : (dt k g : Rat) = - (dt g k : Rat) := by grind
        rcases prs_mem (p := p) (q := q) hne hg hk with h | h
        · refine h2 _ (List.mem_append_right _ ?_)
          have : prB p q g k = some ((((k.q : Rat) * p - (k.p : Rat) * q) * (g.r : Rat) - ((g.q : Rat) * p - (g.p : Rat) * q) * (k.r : Rat)) / (dt g k : Rat)) := by
            unfold prB prW
            generalize (dt g k : Rat) = d at *
            have w1 : 0 < (p * (k.q : Rat) - q * (k.p : Rat)) / d := by
              have : (p * (k.q : Rat) - q * (k.p : Rat)) / d = (-(p * (k.q : Rat) - q * (k.p : Rat))) / (-d) := by grind
              rw [this, Rat.div_def]
              exact Rat.mul_pos (by grind) (Rat.inv_pos.mpr (by grind))
            have w2 : 0 < (q * (g.p : Rat) - p * (g.q : Rat)) / d := by
              have : (q * (g.p : Rat) - p * (g.q : Rat)) / d = (-(q * (g.p : Rat) - p * (g.q : Rat))) / (-d) := by grind
              rw [this, Rat.div_def]
              exact Rat.mul_pos (by grind) (Rat.inv_pos.mpr (by grind))
            rw [if_neg ngk, if_neg (by grind)]
            show some _ = some _
            congr 1
            grind
          rw [← this]
          exact h
        · refine h2 _ (List.mem_append_right _ ?_)
          have : prB p q k g = some ((((k.q : Rat) * p - (k.p : Rat) * q) * (g.r : Rat) - ((g.q : Rat) * p - (g.p : Rat) * q) * (k.r : Rat)) / (dt g k : Rat)) := by
            unfold prB prW
            rw [ekg] at hdt ⊢
            generalize (dt g k : Rat) = d at *
            have w1 : 0 < (p * (g.q : Rat) - q * (g.p : Rat)) / (-d) := by
              rw [Rat.div_def]
              exact Rat.mul_pos (by grind) (Rat.inv_pos.mpr (by grind))
            have w2 : 0 < (q * (k.p : Rat) - p * (k.q : Rat)) / (-d) := by
              rw [Rat.div_def]
              exact Rat.mul_pos (by grind) (Rat.inv_pos.mpr (by grind))
            rw [if_neg nkg, if_neg (by grind)]
            show some _ = some _
            congr 1
            grind
          rw [← this]
          exact h
      have e1 := dt_cast g k
      have e2 := dt_cast k g
      unfold valH at hxg hxk
      unfold lin2 at h1
      generalize (dt g k : Rat) = d at *
      generalize (dt k g : Rat) = d' at *
      generalize (g.p : Rat) = gp at *
      generalize (g.q : Rat) = gq at *
      generalize (g.r : Rat) = gr at *
      generalize (k.p : Rat) = kp at *
      generalize (k.q : Rat) = kq at *
      generalize (k.r : Rat) = kr at *
      obtain ⟨B, eB⟩ : ∃ B, gq * p - gp * q = B := ⟨_, rfl⟩
      obtain ⟨C, eC⟩ : ∃ C, kq * p - kp * q = C := ⟨_, rfl⟩
      rw [eB] at pc hb
      rw [eC] at nd hb
      have idW : (gp * p + gq * q) * (-C) + (kp * p + kq * q) * B = n2 * d' := by grind
      have goal2 : m * (n2 * d') ≤ n2 * (gr * (-C) + kr * B) := by
        by_cases hdt : 0 < d'
        · have w := mul_le (hb hdt) (Rat.le_of_lt (Rat.mul_pos hn hdt))
          have e3 : n2 * d' * ((C * gr - B * kr) / d) = n2 * (gr * (-C) + kr * B) := by
            have : d' = -d := by grind
            rw [this]
            have : d ≠ 0 := by grind
            grind
          rw [e3] at w
          grind
        · have nn : 0 ≤ -(n2 * d') := by
            have := mul_le (show (0 : Rat) ≤ -d' by grind) (Rat.le_of_lt hn)
            grind
          have w := mul_le h1 nn
          have a1 := mul_le hxg (show 0 ≤ n2 * (-C) by
            have := mul_le (show (0 : Rat) ≤ -C by grind) (Rat.le_of_lt hn)
            grind)
          have a2 := mul_le hxk (show 0 ≤ n2 * B by
            have := mul_le (show (0 : Rat) ≤ B by grind) (Rat.le_of_lt hn)
            grind)
          have e5 : n2 * d' * (p * x0.1 + q * x0.2) = n2 * (-C) * (gp * x0.1 + gq * x0.2) + n2 * B * (kp * x0.1 + kq * x0.2) := by grind
          have w' : n2 * d' * m ≤ n2 * d' * (p * x0.1 + q * x0.2) := by
            clear e5 a1 a2 idW hb
            generalize p * x0.1 + q * x0.2 = U at *
            generalize n2 * d' = V at *
            grind
          rw [e5] at w'
          clear e5 w nn idW hb eB eC e1 e2
          generalize gp * x0.1 + gq * x0.2 = U at *
          generalize kp * x0.1 + kq * x0.2 = V at *
          grind
      have fin : (gr * n2 - (gp * p + gq * q) * m) * (-C) + (kr * n2 - (kp * p + kq * q) * m) * B = n2 * (gr * (-C) + kr * B) - m * (n2 * d') := by
        rw [← idW]
        clear idW goal2 hb e1 e2 eB eC
        grind
      rw [eB, eC, fin]
      clear fin idW hb
      grind
  obtain ⟨v, hv⟩ := key
  refine ⟨((p * m - q * v) / n2, (q * m + p * v) / n2), fun g hg => ?_, ?_⟩
  · have := hv _ (List.mem_map.mpr ⟨g, hg, rfl⟩)
    dsimp only at this
    unfold valH
    generalize (g.p : Rat) = gp at *
    generalize (g.q : Rat) = gq at *
    generalize (g.r : Rat) = gr at *
    refine of_mul_le (a := n2) ?_ hn
    have e : n2 * (gp * ((p * m - q * v) / n2) + gq * ((q * m + p * v) / n2)) = gp * (p * m - q * v) + gq * (q * m + p * v) := by grind
    show n2 * (gp * ((p * m - q * v) / n2) + gq * ((q * m + p * v) / n2)) ≤ _
    rw [e]
    grind
  · unfold lin2
    show p * ((p * m - q * v) / n2) + q * ((q * m + p * v) / n2) = m
    have e : p * ((p * m - q * v) / n2) + q * ((q * m + p * v) / n2) = (p * p + q * q) * m / n2 := by grind
    rw [e, en]
    grind
end PG

set_option maxRecDepth 100000
set_option maxHeartbeats 4000000
namespace PG
open PySem PySem.Spec PyProof.Rows L2 RT

def ab (a : Int) : Int := if a < 0 then -a else a
def n1 (g : Hp3) : Int := ab g.p + ab g.q
def oppW (g k : Hp3) : Option (Int × Int) := if dt g k ≠ 0 ∨ 0 ≤ dotI g k then none else some (n1 k / (Int.gcd (n1 k) (n1 g) : Int), n1 g / (Int.gcd (n1 k) (n1 g) : Int))
def w3 (g k l : Hp3) : Int × Int × Int := if dt k l < 0 then (-dt k l, -dt l g, -dt g k) else (dt k l, dt l g, dt g k)
def gcd3 (a b c : Int) : Int := (Int.gcd (Int.gcd a b : Int) c : Int)
def triW (g k l : Hp3) : Option (Int × Int × Int) := if (w3 g k l).1 ≤ 0 ∨ (w3 g k l).2.1 ≤ 0 ∨ (w3 g k l).2.2 ≤ 0 then none else
  some ((w3 g k l).1 / gcd3 (w3 g k l).1 (w3 g k l).2.1 (w3 g k l).2.2, (w3 g k l).2.1 / gcd3 (w3 g k l).1 (w3 g k l).2.1 (w3 g k l).2.2, (w3 g k l).2.2 / gcd3 (w3 g k l).1 (w3 g k l).2.1 (w3 g k l).2.2)
theorem ab_nat (a : Int) : ab a = (a.natAbs : Int) := abs_eq a
theorem n1_pos {g : Hp3} (h : Dir g) : 0 < n1 g := by
  unfold n1 ab
  unfold Dir at h
  split <;> split <;> omega
theorem dot_dir {g k : Hp3} (h : dotI g k < 0) : Dir g ∧ Dir k := by
  unfold dotI at h
  exact ⟨fun ⟨a, b⟩ => by rw [a, b] at h; omega, fun ⟨a, b⟩ => by rw [a, b] at h; omega⟩
theorem oppW_some {g k : Hp3} {a b : Int} (h : oppW g k = some (a, b)) : dt g k = 0 ∧ dotI g k < 0 ∧ 0 < a ∧ 0 < b ∧ ∃ d : Int, 0 < d ∧ a * d = n1 k ∧ b * d = n1 g := by
  unfold oppW at h
  split at h
  · cases h
  · rename_i hn
    have h0 : dt g k = 0 := by
      by_cases z : dt g k = 0
      · exact z
      · exact (hn (.inl z)).elim
    have h1 : dotI g k < 0 := by
      have : ¬ 0 ≤ dotI g k := fun z => hn (.inr z)
      omega
    have pg := n1_pos (dot_dir h1).1
    have pk := n1_pos (dot_dir h1).2
    have dv1 : (Int.gcd (n1 k) (n1 g) : Int) ∣ n1 k := Int.gcd_dvd_left ..
    have dv2 : (Int.gcd (n1 k) (n1 g) : Int) ∣ n1 g := Int.gcd_dvd_right ..
    have dpos : 0 < (Int.gcd (n1 k) (n1 g) : Int) := by
      have : Int.gcd (n1 k) (n1 g) ≠ 0 := fun e => by
        have := (Int.gcd_eq_zero_iff.mp e).1
        omega
      omega
    generalize (Int.gcd (n1 k) (n1 g) : Int) = d at *
    cases h
    have e1 := Int.ediv_mul_cancel dv1
    have e2 := Int.ediv_mul_cancel dv2
    refine ⟨h0, h1, ?_, ?_, d, dpos, e1, e2⟩
    · rw [← e1] at pk
      exact Int.pos_of_mul_pos_right pk dpos
    · rw [← e2] at pg
      exact Int.pos_of_mul_pos_right pg dpos
where
  Int.pos_of_mul_pos_right {a d : Int} (h : 0 < a * d) (hd : 0 < d) : 0 < a := by
    rcases Int.lt_trichotomy a 0 with z | z | z
    · have := Int.mul_neg_of_neg_of_pos z hd
      omega
    · rw [z] at h
      omega
    · exact z
theorem triW_some {g k l : Hp3} {a b c : Int} (h : triW g k l = some (a, b, c)) : 0 < a ∧ 0 < b ∧ 0 < c ∧ ∃ d : Int, d ≠ 0 ∧ a * d = dt k l ∧ b * d = dt l g ∧ c * d = dt g k := by
  unfold triW at h
  split at h
  · cases h
  · rename_i hn
    have p1 : 0 < (w3 g k l).1 := by
      have : ¬ (w3 g k l).1 ≤ 0 := fun z => hn (.inl z)
      omega
    have p2 : 0 < (w3 g k l).2.1 := by
      have : ¬ (w3 g k l).2.1 ≤ 0 := fun z => hn (.inr (.inl z))
      omega
    have p3 : 0 < (w3 g k l).2.2 := by
      have : ¬ (w3 g k l).2.2 ≤ 0 := fun z => hn (.inr (.inr z))
      omega
    obtain ⟨s, hs, s1, s2, s3⟩ : ∃ s : Int, s ≠ 0 ∧ (w3 g k l).1 * s = dt k l ∧ (w3 g k l).2.1 * s = dt l g ∧ (w3 g k l).2.2 * s = dt g k := by
      unfold w3
      split
      · exact ⟨-1, by decide, by dsimp only; omega, by dsimp only; omega, by dsimp only; omega⟩
      · exact ⟨1, by decide, by dsimp only; omega, by dsimp only; omega, by dsimp only; omega⟩
    generalize (w3 g k l).1 = x at *
    generalize (w3 g k l).2.1 = y at *
    generalize (w3 g k l).2.2 = z at *
    have dv : (Int.gcd x y : Int) ∣ x ∧ (Int.gcd x y : Int) ∣ y := ⟨Int.gcd_dvd_left .., Int.gcd_dvd_right ..⟩
    have dv0 : gcd3 x y z ∣ (Int.gcd x y : Int) := Int.gcd_dvd_left ..
    have dv1 : gcd3 x y z ∣ x := Int.dvd_trans dv0 dv.1
    have dv2 : gcd3 x y z ∣ y := Int.dvd_trans dv0 dv.2
    have dv3 : gcd3 x y z ∣ z := Int.gcd_dvd_right ..
    have dpos : 0 < gcd3 x y z := by
      have : Int.gcd (Int.gcd x y : Int) z ≠ 0 := fun e => by
        have := (Int.gcd_eq_zero_iff.mp e).2
        omega
      unfold gcd3
      omega
    generalize gcd3 x y z = d at *
    cases h
    have e1 := Int.ediv_mul_cancel dv1
    have e2 := Int.ediv_mul_cancel dv2
    have e3 := Int.ediv_mul_cancel dv3
    refine ⟨?_, ?_, ?_, d * s, ?_, ?_, ?_, ?_⟩
    · rw [← e1] at p1
      exact oppW_some.Int.pos_of_mul_pos_right p1 dpos
    · rw [← e2] at p2
      exact oppW_some.Int.pos_of_mul_pos_right p2 dpos
    · rw [← e3] at p3
      exact oppW_some.Int.pos_of_mul_pos_right p3 dpos
    · exact Int.mul_ne_zero (by omega) hs
    · rw [← Int.mul_assoc, e1, s1]
    · rw [← Int.mul_assoc, e2, s2]
    · rw [← Int.mul_assoc, e3, s3]

def C2 (g k : Hp3) : Prop := ∃ t : Rat, 0 < t ∧ (k.p : Rat) = - t * (g.p : Rat) ∧ (k.q : Rat) = - t * (g.q : Rat) ∧ Dir g ∧ t * (g.r : Rat) + (k.r : Rat) < 0
def C3 (g k l : Hp3) : Prop := ∃ a b c : Rat, 0 < a ∧ 0 < b ∧ 0 < c ∧ a * (g.p : Rat) + b * (k.p : Rat) + c * (l.p : Rat) = 0 ∧ a * (g.q : Rat) + b * (k.q : Rat) + c * (l.q : Rat) = 0 ∧ a * (g.r : Rat) + b * (k.r : Rat) + c * (l.r : Rat) < 0 ∧ dt g k ≠ 0
end PG

set_option maxRecDepth 100000
set_option maxHeartbeats 4000000
namespace PG
open PySem PySem.Spec PyProof.Rows L2 RT
theorem lgm {a b : Int} {n m : Nat} (h1 : a.natAbs.log2 + 2 ≤ n) (h2 : b.natAbs.log2 + 2 ≤ m) : (a * b).natAbs.log2 + 3 ≤ n + m := by
  have := @log2_mul_le a.natAbs b.natAbs
  rw [Int.natAbs_mul]
  omega
theorem lga {a b : Int} {n : Nat} (h1 : a.natAbs.log2 ≤ n) (h2 : b.natAbs.log2 ≤ n) : (a + b).natAbs.log2 ≤ n + 1 := by
  have := log2_mono (Int.natAbs_add_le a b)
  have := @log2_add_le a.natAbs b.natAbs
  omega
theorem lgs {a b : Int} {n : Nat} (h1 : a.natAbs.log2 ≤ n) (h2 : b.natAbs.log2 ≤ n) : (a - b).natAbs.log2 ≤ n + 1 := by
  rw [Int.sub_eq_add_neg]
  exact lga h1 (by rw [Int.natAbs_neg]; exact h2)
theorem dt_z {n : Nat} {g k : Hp3} (hg : HZ n g) (hk : HZ n k) : (dt g k).natAbs.log2 + 2 ≤ 2 * n := by
  have a := lgm hg.1 hk.2.1
  have b := lgm hg.2.1 hk.1
  have := lgs (a := g.p * k.q) (b := g.q * k.p) (n := 2 * n - 3) (by omega) (by omega)
  unfold dt
  omega
section
variable {st : List Cell} {Q : Vl → List Cell → Prop} {g k l : Hp3} {n : Nat}
theorem ifd {P : Prop} [Decidable P] {A B : Prop} (ht : P → A) (hf : ¬ P → B) : if decide P = true then A else B := by
  by_cases h : P
  · rw [if_pos (decide_eq_true h)]
    exact ht h
  · rw [if_neg (by simpa using h)]
    exact hf h
end
end PG

set_option maxRecDepth 100000
set_option maxHeartbeats 4000000
namespace PG
open PySem PySem.Spec PyProof.Rows L2 RT

def hAt (hs : List Hp3) (i : Nat) : Hp3 := hs.getD i ⟨1, 0, 0⟩
def ixD (ix : List Nat) : Dt := .tup (ix.map fun i : Nat => Dt.int (i : Int))
def wsD (ws : List Int) : Dt := .tup (ws.map .int)
def oD (s : List Nat × List Int) : Dt := .tup [ixD s.1, wsD s.2]
theorem hAt_get {hs : List Hp3} {i : Nat} (h : i < hs.length) : hs[i]? = some (hAt hs i) := by
  unfold hAt
  rw [List.getD_eq_getElem?_getD, List.getElem?_eq_getElem h]
  rfl
theorem hAt_mem {hs : List Hp3} {i : Nat} (h : i < hs.length) : hAt hs i ∈ hs := List.mem_of_getElem? (hAt_get h)
section
variable {st : List Cell} {Q : Vl → List Cell → Prop} {hs : List Hp3} {n : Nat}
end
end PG

set_option maxRecDepth 100000
set_option maxHeartbeats 4000000
namespace PG
open PySem PySem.Spec PyProof.Rows L2 RT
def numOf (hs : List Hp3) (s : List Nat × List Int) : Int := ((s.1.zip s.2).map fun p => (hAt hs p.1).r * p.2).sum
inductive OS (hs : List Hp3) : List Nat × List Int → Prop where
  | two (i j : Nat) (a b : Int) (h1 : i < j) (h2 : j < hs.length) (h : oppW (hAt hs i) (hAt hs j) = some (a, b)) : OS hs ([i, j], [a, b])
  | three (i j k : Nat) (a b c : Int) (h1 : i < j) (h2 : j < k) (h3 : k < hs.length) (h : triW (hAt hs i) (hAt hs j) (hAt hs k) = some (a, b, c)) : OS hs ([i, j, k], [a, b, c])

theorem C2.symm {g k : Hp3} : C2 g k → C2 k g := fun ⟨t, ht, e1, e2, dg, hn⟩ => by
  have ti : 0 < 1 / t := by
    rw [Rat.div_def]
    exact Rat.mul_pos (by decide) (Rat.inv_pos.mpr ht)
  refine ⟨1 / t, ti, by grind, by grind, fun ⟨a, b⟩ => ?_, ?_⟩
  · rw [a] at e1
    rw [b] at e2
    have z : ((0 : Int) : Rat) = 0 := rfl
    refine dg ⟨Rat.intCast_eq_zero_iff.mp ?_, Rat.intCast_eq_zero_iff.mp ?_⟩
    · grind
    · grind
  · have w := mul_lt ti hn
    have : 1 / t * (t * (g.r : Rat) + (k.r : Rat)) = (g.r : Rat) + 1 / t * (k.r : Rat) := by grind
    rw [this] at w
    grind
where
  mul_lt {t a : Rat} (ht : 0 < t) (h : a < 0) : t * a < 0 := by
    have := Rat.mul_pos ht (show 0 < -a by grind)
    grind
theorem C3.nd {g k l : Hp3} : C3 g k l → dt k l ≠ 0 := fun ⟨a, b, c, pa, pb, pc, e1, e2, hn, nd⟩ z => by
  have h1 := dt_cast g k
  have h2 := dt_cast k l
  rw [z] at h2
  have z0 : ((0 : Int) : Rat) = 0 := rfl
  have nd' : (dt g k : Rat) ≠ 0 := fun y => nd (Rat.intCast_eq_zero_iff.mp y)
  rw [h1] at nd'
  -- cross with k: a dt(g, k) = c dt(k, l)
  have : a * ((g.p : Rat) * (k.q : Rat) - (g.q : Rat) * (k.p : Rat)) = 0 := by grind
  grind
end PG

set_option maxRecDepth 100000
set_option maxHeartbeats 4000000
namespace PG
open PySem PySem.Spec PyProof.Rows L2 RT
theorem zipD_map {α β : Type} (f : α → Dt) (g : β → Dt) : ∀ (xs : List α) (ys : List β), zipD (xs.map f) (ys.map g) = (xs.zip ys).map fun p => Dt.tup [f p.1, g p.2]
  | [], _ => by cases ‹List β› <;> rfl
  | _ :: _, [] => rfl
  | x :: xs, y :: ys => by
    rw [List.zip_cons_cons, List.map_cons, List.map_cons, List.map_cons, ← zipD_map f g xs ys]
    rfl
theorem sumI_map : ∀ xs : List Int, sumI (xs.map .int) = some xs.sum
  | [] => rfl
  | x :: xs => by
    rw [List.map_cons, List.sum_cons]
    show (sumI (xs.map .int)).map (x + ·) = _
    rw [sumI_map xs]
    rfl

theorem lgn1 {n : Nat} {g : Hp3} (h : HZ n g) : (n1 g).natAbs.log2 + 1 ≤ n := by
  unfold n1
  have := lga (a := ab g.p) (b := ab g.q) (n := n - 2) (by rw [ab_nat, Int.natAbs_natCast]; have := h.1; omega) (by rw [ab_nat, Int.natAbs_natCast]; have := h.2.1; omega)
  have := h.1
  omega
theorem lg_div {a d w : Int} (h : w * d = a) (hd : d ≠ 0) : w.natAbs.log2 ≤ a.natAbs.log2 := by
  refine log2_mono ?_
  rw [← h, Int.natAbs_mul]
  exact Nat.le_mul_of_pos_right _ (by omega)
theorem os_z {n : Nat} {hs : List Hp3} (hg : ∀ g ∈ hs, HZ n g) {s : List Nat × List Int} (h : OS hs s) : (∀ i ∈ s.1, i < hs.length) ∧ (∀ w ∈ s.2, w.natAbs.log2 + 2 ≤ 2 * n) ∧ s.1.length = s.2.length ∧ s.1.length ≤ 3 := by
  cases h with
  | two i j a b h1 h2 h =>
    obtain ⟨_, _, pa, pb, d, hd, ea, eb⟩ := oppW_some h
    have z1 := hg _ (hAt_mem (show i < hs.length by omega))
    have z2 := hg _ (hAt_mem h2)
    have w1 := lgn1 z1
    have w2 := lgn1 z2
    have u1 := lg_div ea (by omega)
    have u2 := lg_div eb (by omega)
    have := z1.1
    refine ⟨fun k hk => ?_, fun w hw => ?_, rfl, Nat.le_of_ble_eq_true rfl⟩
    · simp at hk
      omega
    · simp at hw
      rcases hw with rfl | rfl <;> omega
  | three i j k a b c h1 h2 h3 h =>
    obtain ⟨pa, pb, pc, d, hd, ea, eb, ec⟩ := triW_some h
    have z1 := hg _ (hAt_mem (show i < hs.length by omega))
    have z2 := hg _ (hAt_mem (show j < hs.length by omega))
    have z3 := hg _ (hAt_mem h3)
    have d1 := dt_z z2 z3
    have d2 := dt_z z3 z1
    have d3 := dt_z z1 z2
    have u1 := lg_div ea hd
    have u2 := lg_div eb hd
    have u3 := lg_div ec hd
    refine ⟨fun k hk => ?_, fun w hw => ?_, rfl, Nat.le_of_ble_eq_true rfl⟩
    · simp at hk
      omega
    · simp at hw
      rcases hw with rfl | rfl | rfl <;> omega
section
variable {st : List Cell} {Q : Vl → List Cell → Prop} {hs : List Hp3} {n : Nat}
theorem number_ok {s : List Nat × List Int} (hg : ∀ g ∈ hs, HZ n g) (hn : n ≤ 10000000) (h : OS hs s) (hq : Q (.d (.int (numOf hs s))) st) : sp_number_of [.d (.lst (hs.map hpD)), .d (ixD s.1), .d (wsD s.2)] st Q := by
  obtain ⟨z1, z2, z3, z4⟩ := os_z hg h
  unfold sp_number_of
  refine ⟨rfl, ?_⟩
  show dLcGo _ _ (.tp [3, 4]) dYes _ (zipD (s.1.map fun i : Nat => Dt.int (i : Int)) (s.2.map .int)) none _ (zipD (s.1.map fun i : Nat => Dt.int (i : Int)) (s.2.map .int)) [] _
  rw [zipD_map]
  refine lc_map (fun p : Nat × Int => Dt.tup [.int (p.1 : Int), .int p.2]) (fun p => Dt.int ((hAt hs p.1).r * p.2)) (done := []) (fun p hp C hC => ?_) ?_ ?_
  · obtain ⟨hp1, hp2⟩ := List.of_mem_zip hp
    have hi := z1 _ hp1
    refine ⟨rfl, ?_⟩
    refine rIx_mk (atI_map (f := hpD) (hAt_get hi)) ?_
    have y1 := (hg _ (hAt_mem hi)).2.2
    have y2 := z2 _ hp2
    exact ⟨mulok (zm (by omega)), hC _⟩
  · rw [List.length_nil, List.length_zip]
    omega
  · rw [List.nil_append]
    have e : (s.1.zip s.2).map (fun p => Dt.int ((hAt hs p.1).r * p.2)) = ((s.1.zip s.2).map fun p => (hAt hs p.1).r * p.2).map .int := by rw [List.map_map]; rfl
    rw [e]
    show match sumI (((s.1.zip s.2).map fun p => (hAt hs p.1).r * p.2).map .int) with | some n => _ | none => False
    rw [sumI_map]
    exact tk hq
end
end PG

set_option maxRecDepth 100000
set_option maxHeartbeats 4000000
namespace PG
open PySem PySem.Spec PyProof.Rows L2 RT
section
variable {st : List Cell} {Q : Vl → List Cell → Prop} {hs : List Hp3} {n : Nat}
end
end PG

set_option maxRecDepth 100000
set_option maxHeartbeats 4000000
namespace PG
open PySem PySem.Spec PyProof.Rows L2 RT

def meetR (g k : Hp3) : Option Ray := if dt g k = 0 then none else some (Rat.divInt (g.r * k.q - k.r * g.q) (dt g k), Rat.divInt (g.p * k.r - k.p * g.r) (dt g k))
def along (y z : Ray) (t : Rat) : Ray := (y.1 + t * (z.1 - y.1), y.2 + t * (z.2 - y.2))
end PG

set_option maxRecDepth 100000
set_option maxHeartbeats 4000000
namespace PG
open PySem PySem.Spec PyProof.Rows L2 RT
def Pl (g : Hp3) : Prop := Dir g ∧ g.p.natAbs ≤ 2 ∧ g.q.natAbs ≤ 2 ∧ g.r.natAbs ≤ 6
theorem log_le {z : Int} {n b : Nat} (h : z.natAbs ≤ n) (hb : n < 2 ^ (b + 1)) : z.natAbs.log2 ≤ b := by
  by_cases h0 : z.natAbs = 0
  · rw [h0]
    exact Nat.zero_le _
  · have := (Nat.log2_lt h0 (k := b + 1)).mpr (by omega)
    omega
theorem Pl.z {g : Hp3} (h : Pl g) : HZ 4 g := by
  obtain ⟨_, h1, h2, h3⟩ := h
  have a := log_le (b := 1) h1 (by decide)
  have b := log_le (b := 1) h2 (by decide)
  have c := log_le (b := 2) h3 (by decide)
  exact ⟨by omega, by omega, by omega⟩
theorem gcd3_pos {p q r : Int} (h : ¬ (p = 0 ∧ q = 0)) : 0 < gcd3 p q r := by
  unfold gcd3
  have : Int.gcd (Int.gcd p q : Int) r ≠ 0 := fun e => by
    have := (Int.gcd_eq_zero_iff.mp e).1
    have : Int.gcd p q = 0 := by omega
    exact h (Int.gcd_eq_zero_iff.mp this)
  omega
theorem gcd3_dvd (p q r : Int) : gcd3 p q r ∣ p ∧ gcd3 p q r ∣ q ∧ gcd3 p q r ∣ r := by
  unfold gcd3
  have h1 : (Int.gcd (Int.gcd p q : Int) r : Int) ∣ (Int.gcd p q : Int) := Int.gcd_dvd_left ..
  exact ⟨Int.dvd_trans h1 (Int.gcd_dvd_left ..), Int.dvd_trans h1 (Int.gcd_dvd_right ..), Int.gcd_dvd_right ..⟩
section
variable {ds : List Int} {i k : Nat} {st : List Cell} {Q : Vl → List Cell → Prop}
end
end PG

set_option maxRecDepth 100000
set_option maxHeartbeats 4000000
namespace PG
open PySem PySem.Spec PyProof.Rows L2 RT
theorem fr_int (z : Int) : Dt.tup [.int z, .int 1] = fr (z : Rat) := rfl
theorem Pl.zb {g : Hp3} (h : Pl g) : zb (g.p : Rat) ≤ 5 ∧ zb (g.q : Rat) ≤ 5 ∧ zb (g.r : Rat) ≤ 5 := by
  obtain ⟨a, b, c⟩ := h.z
  have := zb_int g.p
  have := zb_int g.q
  have := zb_int g.r
  omega
section
variable {st : List Cell} {Q : Vl → List Cell → Prop} {g k l : Hp3} {x : Ray} {n : Nat} {hs : List Hp3}
theorem Pl.ab (hg : Pl g) : g.p.natAbs ≤ 6 ∧ g.q.natAbs ≤ 6 ∧ g.r.natAbs ≤ 6 := by
  obtain ⟨_, a, b, c⟩ := hg
  omega
theorem divI_z {a d : Int} (h0 : d ≠ 0) (h1 : a.natAbs ≤ 1000) (h2 : d.natAbs ≤ 1000) : zb (Rat.divInt a d) ≤ 20 := by
  have := zb_divInt (n := a) h0
  have := log_le (b := 9) h1 (by decide)
  have := log_le (b := 9) h2 (by decide)
  omega
end
end PG

set_option maxRecDepth 100000
set_option maxHeartbeats 4000000
namespace PG
open PySem PySem.Spec PyProof.Rows L2 RT
section
variable {st : List Cell} {Q : Vl → List Cell → Prop} {g k l : Hp3} {x : Ray} {n : Nat} {hs : List Hp3}
end
end PG

set_option maxRecDepth 100000
set_option maxHeartbeats 4000000
namespace PG
open PySem PySem.Spec PyProof.Rows L2 RT
section
variable {st : List Cell} {Q : Vl → List Cell → Prop} {g k l : Hp3} {x : Ray} {n : Nat} {hs : List Hp3}
end
end PG

set_option maxRecDepth 100000
set_option maxHeartbeats 4000000
namespace PG
open PySem PySem.Spec PyProof.Rows L2 RT
section
variable {st : List Cell} {Q : Vl → List Cell → Prop} {hs : List Hp3} {n : Nat}
end

end PG

set_option maxRecDepth 100000
set_option maxHeartbeats 4000000
namespace PG
open PySem PySem.Spec PyProof.Rows L2 RT

structure Sw (k W : Nat) (d : Dt) : Prop where
  shw : (toPy d).showable = true
  itg : (toPy d).intsShort 13 = true
  lay : (toPy d).canLay0 = true
  dep : (toPy d).depth ≤ k
  wt : (toPy d).weight ≤ W

def Pg (g : Hp3) : Prop := Dir g ∧ gcd3 g.p g.q g.r = 1 ∧ g.p.natAbs ≤ 1000000 ∧ g.q.natAbs ≤ 1000000 ∧ g.r.natAbs ≤ 1000000
theorem Pg.z {g : Hp3} (h : Pg g) : HZ 30 g := by
  obtain ⟨_, _, h1, h2, h3⟩ := h
  have a := log_le (b := 20) h1 (by decide)
  have b := log_le (b := 20) h2 (by decide)
  have c := log_le (b := 20) h3 (by decide)
  exact ⟨by omega, by omega, by omega⟩
end PG

set_option maxRecDepth 100000
set_option maxHeartbeats 4000000
namespace PG
open PySem PySem.Spec PyProof.Rows L2 RT

end PG

set_option maxRecDepth 100000
set_option maxHeartbeats 4000000
namespace PG
open PySem PySem.Spec PyProof.Rows L2 RT

def befR (a b : Ray) : Bool := if a.1 = b.1 then decide (a.2 < b.2) else decide (a.1 < b.1)
def putF (L : List Ray) (x : Ray) : List Ray := if x ∈ L then L else L.take (L.filter fun y => befR y x).length ++ [x] ++ L.drop (L.filter fun y => befR y x).length
def putM (hs : List Hp3) (g : Hp3) (L : List Ray) (k : Hp3) : List Ray := match meetR g k with
  | none => L
  | some x => if hs.all (hasH x) = true then putF L x else L

def half : Rat := Rat.divInt 1 2
end PG

set_option maxRecDepth 100000
set_option maxHeartbeats 4000000
namespace PG
open PySem PySem.Spec PyProof.Rows L2 RT
section
variable {st : List Cell} {Q : Vl → List Cell → Prop} {hs : List Hp3} {n : Nat} {g k : Hp3} {x : Ray}
end
end PG

set_option maxRecDepth 100000
set_option maxHeartbeats 4000000
namespace PG
open PySem PySem.Spec PyProof.Rows L2 RT
section
variable {st : List Cell} {Q : Vl → List Cell → Prop} {g k : Hp3}
theorem Pg.ab (h : Pg g) : g.p.natAbs ≤ 10000000 ∧ g.q.natAbs ≤ 10000000 ∧ g.r.natAbs ≤ 10000000 ∧ 0 < n1 g ∧ (n1 g).natAbs ≤ 10000000 := by
  have := n1_pos h.1
  obtain ⟨_, _, a, b, c⟩ := h
  unfold n1 at *
  rw [ab_nat, ab_nat] at *
  omega
end
end PG

set_option maxRecDepth 100000
set_option maxHeartbeats 4000000
namespace PG
open PySem PySem.Spec PyProof.Rows L2 RT
section
variable {st : List Cell} {Q : Vl → List Cell → Prop}
end
end PG

set_option maxRecDepth 100000
set_option maxHeartbeats 4000000
namespace PG
open PySem PySem.Spec PyProof.Rows L2 RT
theorem num_le {n d : Int} : (Rat.divInt n d).num.natAbs ≤ n.natAbs := by
  rw [Rat.num_divInt]
  have : (d.sign * n / (d.gcd n : Int)).natAbs ≤ (d.sign * n).natAbs := Int.natAbs_ediv_le_natAbs ..
  rw [Int.natAbs_mul] at this
  have h2 : d.sign.natAbs ≤ 1 := by
    rcases Int.lt_trichotomy d 0 with h | h | h
    · rw [Int.sign_eq_neg_one_of_neg h]
      decide
    · rw [h]
      decide
    · rw [Int.sign_eq_one_of_pos h]
      decide
  have := Nat.mul_le_mul_right n.natAbs h2
  omega
theorem den_le {n d : Int} (hd : d ≠ 0) : (Rat.divInt n d).den ≤ d.natAbs := by
  rw [Rat.den_divInt, if_neg hd]
  exact Nat.div_le_self ..
def Fr (r : Rat) : Prop := ∃ n d : Int, r = Rat.divInt n d ∧ 0 < d ∧ d ≤ 3 ∧ n.natAbs ≤ 30
theorem Fr.nd {r : Rat} : Fr r → r.num.natAbs ≤ 30 ∧ r.den ≤ 3 := fun ⟨n, d, e, h1, h2, h3⟩ => by
  rw [e]
  have := num_le (n := n) (d := d)
  have := den_le (n := n) (d := d) (by omega)
  omega
theorem gcd3_div {x y z : Int} (h : ¬ (x = 0 ∧ y = 0)) : gcd3 (x / gcd3 x y z) (y / gcd3 x y z) (z / gcd3 x y z) = 1 := by
  have g0 := gcd3_pos (r := z) h
  obtain ⟨d1, d2, d3⟩ := gcd3_dvd x y z
  obtain ⟨d, ed⟩ : ∃ d, gcd3 x y z = d := ⟨_, rfl⟩
  rw [ed] at d1 d2 d3 g0 ⊢
  obtain ⟨x', rfl⟩ := d1
  obtain ⟨y', rfl⟩ := d2
  obtain ⟨z', rfl⟩ := d3
  rw [Int.mul_ediv_cancel_left _ (by omega), Int.mul_ediv_cancel_left _ (by omega), Int.mul_ediv_cancel_left _ (by omega)]
  unfold gcd3 at ed ⊢
  rw [Int.gcd_mul_left] at ed
  have e2 : (Int.gcd (((d.natAbs * Int.gcd x' y' : Nat) : Int)) (d * z') : Int) = d.natAbs * (Int.gcd (Int.gcd x' y' : Int) z' : Int) := by
    have : ((d.natAbs * Int.gcd x' y' : Nat) : Int) = d * (Int.gcd x' y' : Int) := by
      rw [Int.natCast_mul]
      congr 1
      omega
    rw [this, Int.gcd_mul_left, Int.natCast_mul]
  rw [e2] at ed
  have hd : (d.natAbs : Int) = d := by omega
  rw [hd] at ed
  have : d * (Int.gcd (Int.gcd x' y' : Int) z' : Int) = d * 1 := by omega
  exact Int.eq_of_mul_eq_mul_left (by omega) this
section
variable {st : List Cell} {Q : Vl → List Cell → Prop}
end
end PG

set_option maxRecDepth 100000
set_option maxHeartbeats 4000000
namespace PG
open PySem PySem.Spec PyProof.Rows L2 RT
theorem Fr.zb {r : Rat} (h : Fr r) : zb r ≤ 20 := by
  obtain ⟨n, d, rfl, h1, h2, h3⟩ := h
  exact divI_z (by omega) (by omega) (by omega)
section
variable {st : List Cell} {Q : Vl → List Cell → Prop}
theorem lfraction4_ok {ds : List Int} {i k : Nat} (hk : st[k]? = some (Bx ds i)) (hi : i < 900000) (h : ∀ r : Rat, (∃ n d : Int, r = Rat.divInt n d ∧ 0 < d ∧ d ≤ 3 ∧ n.natAbs ≤ 4) → Q (.d (fr r)) (st.set k (Bx ds (i + 2)))) : sp__law_fraction [.c k] st Q := by
  have hlt : k < st.length := (List.getElem?_eq_some_iff.mp hk).1
  have hs : ∀ c : Cell, (st.set k c)[k]? = some c := fun c => by simp [hlt]
  have hl : ∀ c : Cell, (st.set k c).length = st.length := fun c => List.length_set
  unfold sp__law_fraction
  refine ⟨rfl, draw2_ok hk (by decide) (by omega) fun a a0 a1 => ⟨trivial, slt rfl, ?_⟩⟩
  refine draw2_ok (hs _) (by decide) (by omega) fun b b0 b1 => ?_
  rw [List.set_set]
  have hb : ∃ d : Int, atI [Dt.int 1, .int 1, .int 2, .int 3] b = some (.int d) ∧ 0 < d ∧ d ≤ 3 := by
    have : b = 0 ∨ b = 1 ∨ b = 2 ∨ b = 3 := by omega
    rcases this with rfl | rfl | rfl | rfl
    · exact ⟨1, rfl, by decide, by decide⟩
    · exact ⟨1, rfl, by decide, by decide⟩
    · exact ⟨2, rfl, by decide, by decide⟩
    · exact ⟨3, rfl, by decide, by decide⟩
  obtain ⟨d, e, d0, d1⟩ := hb
  refine rIx_mk e ?_
  refine lfrac_ok (by omega) ?_
  rw [← hl (Bx ds (i + 2))]
  exact tk (h _ ⟨a - 4, d, rfl, d0, d1, by omega⟩)
end
end PG

set_option maxRecDepth 100000
set_option maxHeartbeats 4000000
namespace PG
open PySem PySem.Spec PyProof.Rows L2 RT

theorem f4_pn {r : Rat} : (∃ n d : Int, r = Rat.divInt n d ∧ 0 < d ∧ d ≤ 3 ∧ n.natAbs ≤ 4) → Pn r := fun ⟨n, d, e, h1, h2, h3⟩ => ⟨n, d.toNat, by rw [e]; congr 1; omega, by omega, by omega, by omega⟩
section
variable {ds : List Int} {i k : Nat} {st : List Cell} {Q : Vl → List Cell → Prop}
theorem frac2_ok (hk : st[k]? = some (Bx ds i)) (hi : i < 900000) (h : ∀ r : Rat, Pn r → Q (.d (fr r)) (st.set k (Bx ds (i + 2)))) : sp__law_fraction [.c k] st Q :=
  lfraction4_ok hk hi fun r hr => h r (f4_pn hr)
theorem nonzero_ok (hk : st[k]? = some (Bx ds i)) (hi : i < 900000) (h : ∀ r : Rat, Pn r → r ≠ 0 → Q (.d (fr r)) (st.set k (Bx ds (i + 2)))) : sp__law_nonzero [.c k] st Q := by
  have hl : ∀ c : Cell, (st.set k c).length = st.length := fun c => List.length_set
  unfold sp__law_nonzero
  refine ⟨rfl, frac2_ok hk hi fun r hr => ?_⟩
  let S : M := ⟨[some (.c k), some (.d (fr r))], st.set k (Bx ds (i + 2))⟩
  have tk' : ∀ {v : Vl}, Q v (st.set k (Bx ds (i + 2))) → Q v ((st.set k (Bx ds (i + 2))).take st.length) := fun {v} q => by
    rw [← hl (Bx ds (i + 2))]
    exact tk q
  dsimp only
  by_cases c : r = 0
  · refine ifs_t S (fun K hK => ⟨rfl, rfl, ?_⟩) ⟨lineN rfl, tk' (h (Rat.divInt 1 2) pn_half (by decide))⟩
    show K (eqD (.int r.num) (.int 0)) _
    rw [eqD_int, decide_eq_true (Rat.num_eq_zero.mpr c)]
    exact hK
  · refine guard_st S (fun K hK => ⟨rfl, rfl, ?_⟩) (tk' (h r hr c))
    show K (eqD (.int r.num) (.int 0)) _
    rw [eqD_int, decide_eq_false (fun z => c (Rat.num_eq_zero.mp z))]
    exact hK
end
end PG

set_option maxRecDepth 100000
set_option maxHeartbeats 4000000
namespace PG
open PySem PySem.Spec PyProof.Rows L2 RT
def Ez (n : Nat) : El → Prop
  | .gap g => zb g ≤ n
  | .lens p c => zb p ≤ n ∧ zb c ≤ n
  | .prism d => zb d ≤ n
  | .afocal m => zb m ≤ n ∧ m ≠ 0
  | .stop _ _ => True
section
variable {st : List Cell} {Q : Vl → List Cell → Prop}
end
end PG

set_option maxRecDepth 100000
set_option maxHeartbeats 4000000
namespace PG
open PySem PySem.Spec PyProof.Rows L2 RT
section
variable {ds : List Int} {i k : Nat} {st : List Cell} {Q : Vl → List Cell → Prop}
end
end PG

set_option maxRecDepth 100000
set_option maxHeartbeats 4000000
namespace PG
open PySem PySem.Spec PyProof.Rows L2 RT

end PG

set_option maxRecDepth 100000
set_option maxHeartbeats 4000000
namespace PG
open PySem PySem.Spec PyProof.Rows L2 RT
section
variable {st : List Cell} {Q : Vl → List Cell → Prop}
end
end PG

set_option maxRecDepth 100000
set_option maxHeartbeats 4000000
namespace PG
open PySem PySem.Spec PyProof.Rows L2 RT

structure Sx (k W : Nat) (d : Dt) : Prop where
  shw : (toPy d).showable = true
  itg : (toPy d).intsShort 250 = true
  lay : (toPy d).canLay0 = true
  dep : (toPy d).depth ≤ k
  wt : (toPy d).weight ≤ W
theorem Sx.le {k W k' W' : Nat} {d : Dt} (h : Sx k W d) (h1 : k ≤ k') (h2 : W ≤ W') : Sx k' W' d := ⟨h.shw, h.itg, h.lay, Nat.le_trans h.dep h1, Nat.le_trans h.wt h2⟩
end PG

set_option maxRecDepth 100000
set_option maxHeartbeats 4000000

namespace PG
open PySem PySem.Spec PyProof.Rows L2 RT
section
variable {x y : Rat} {st : List Cell} {Q : Vl → List Cell → Prop}
end
section
variable {ds : List Int} {i k : Nat} {st : List Cell} {Q : Vl → List Cell → Prop}
end
section
variable {st : List Cell} {Q : Vl → List Cell → Prop}
end
end PG

set_option maxRecDepth 100000
set_option maxHeartbeats 4000000

namespace PG
open PySem PySem.Spec PyProof.Rows L2 RT
structure Pup where
  i : Nat
  d : Option Rat
  lo : Option Rat
  hi : Option Rat
section
variable {st : List Cell} {Q : Vl → List Cell → Prop}
end
end PG

set_option maxRecDepth 100000
set_option maxHeartbeats 4000000

namespace PG
open PySem PySem.Spec PyProof.Rows L2 RT
structure PupZ (n : Nat) (p : Pup) : Prop where
  d : Zo n p.d
  lo : Zo n p.lo
  hi : Zo n p.hi
section
variable {st : List Cell} {Q : Vl → List Cell → Prop}
end
end PG

set_option maxRecDepth 100000
set_option maxHeartbeats 4000000
namespace PG
open PySem PySem.Spec PyProof.Rows L2 RT

theorem least_go : ∀ (l : List (Option Rat)) (b : Option Rat), match l.foldl (bstep fun x y => x < y) b with
    | none => b = none ∧ ∀ o ∈ l, o = none
    | some s => (b = some s ∨ some s ∈ l) ∧ (∀ y, b = some y → s ≤ y) ∧ ∀ y, some y ∈ l → s ≤ y
  | [], none => ⟨rfl, fun _ h => nomatch h⟩
  | [], some b => ⟨.inl rfl, fun y e => by cases e; exact Rat.le_refl, fun _ h => nomatch h⟩
  | o :: l, b => by
    rw [List.foldl_cons]
    have ih := least_go l (bstep (fun x y => x < y) b o)
    cases hr : l.foldl (bstep fun x y => x < y) (bstep (fun x y => x < y) b o) with
    | none =>
      rw [hr] at ih
      obtain ⟨h1, h2⟩ := ih
      cases o with
      | none => exact ⟨h1, fun o ho => by
          rcases List.mem_cons.mp ho with e | e
          · exact e
          · exact h2 o e⟩
      | some x =>
        cases b with
        | none => cases h1
        | some y =>
          unfold bstep at h1
          dsimp only at h1
          split at h1 <;> cases h1
    | some s =>
      rw [hr] at ih
      obtain ⟨h1, h2, h3⟩ := ih
      cases o with
      | none =>
        refine ⟨?_, h2, fun y hy => ?_⟩
        · rcases h1 with h | h
          · exact .inl h
          · exact .inr (List.mem_cons_of_mem _ h)
        · rcases List.mem_cons.mp hy with e | e
          · cases e
          · exact h3 y e
      | some x =>
        cases b with
        | none =>
          refine ⟨?_, (fun y e => nomatch e), fun y hy => ?_⟩
          · rcases h1 with h | h
            · cases h
              exact .inr List.mem_cons_self
            · exact .inr (List.mem_cons_of_mem _ h)
          · rcases List.mem_cons.mp hy with e | e
            · cases e
              exact h2 x rfl
            · exact h3 y e
        | some z =>
          unfold bstep at h1 h2
          dsimp only at h1 h2
          by_cases c : x < z
          · rw [if_pos c] at h1 h2
            refine ⟨?_, fun y e => ?_, fun y hy => ?_⟩
            · rcases h1 with h | h
              · cases h
                exact .inr List.mem_cons_self
              · exact .inr (List.mem_cons_of_mem _ h)
            · cases e
              have := h2 x rfl
              grind
            · rcases List.mem_cons.mp hy with e | e
              · cases e
                exact h2 x rfl
              · exact h3 y e
          · rw [if_neg c] at h1 h2
            refine ⟨?_, fun y e => ?_, fun y hy => ?_⟩
            · rcases h1 with h | h
              · exact .inl h
              · exact .inr (List.mem_cons_of_mem _ h)
            · exact h2 y e
            · rcases List.mem_cons.mp hy with e | e
              · cases e
                have := h2 z rfl
                grind
              · exact h3 y e
theorem least_none {l : List (Option Rat)} (h : least l = none) : ∀ o ∈ l, o = none := by
  have := least_go l none
  unfold least at h
  rw [h] at this
  exact this.2
theorem least_some {l : List (Option Rat)} {s : Rat} (h : least l = some s) : some s ∈ l ∧ ∀ y, some y ∈ l → s ≤ y := by
  have := least_go l none
  unfold least at h
  rw [h] at this
  exact ⟨this.1.resolve_left (fun e => nomatch e), this.2.2⟩
theorem greatest_neg : ∀ (l : List (Option Rat)) (b : Option Rat), (l.foldl (bstep fun x y => y < x) b).map (-·) = (l.map (Option.map (-·))).foldl (bstep fun x y => x < y) (b.map (-·))
  | [], _ => rfl
  | o :: l, b => by
    rw [List.map_cons, List.foldl_cons, List.foldl_cons, greatest_neg l]
    congr 1
    cases o with
    | none => rfl
    | some x =>
      cases b with
      | none => rfl
      | some y =>
        unfold bstep
        dsimp only [Option.map_some]
        by_cases c : y < x
        · rw [if_pos c, if_pos (by grind)]
          rfl
        · rw [if_neg c, if_neg (by grind)]
          rfl
theorem greatest_none {l : List (Option Rat)} (h : greatest l = none) : ∀ o ∈ l, o = none := fun o ho => by
  have e := greatest_neg l none
  unfold greatest at h
  rw [h] at e
  have := least_none (show least (l.map (Option.map (-·))) = none from e.symm) _ (List.mem_map.mpr ⟨o, ho, rfl⟩)
  cases o with
  | none => rfl
  | some x => cases this

def supF (p q : Rat) (hs : List Hp3) : Option Rat := if p = 0 ∧ q = 0 then some 0 else least (bounds p q hs)
def infF (p q : Rat) (hs : List Hp3) : Option Rat := (supF (-p) (-q) hs).map (-·)
def IsSup (p q : Rat) (hs : List Hp3) (o : Option Rat) : Prop := match o with
  | none => ∀ m, ∃ x, Rg hs x ∧ m ≤ lin2 p q x
  | some s => (∀ x, Rg hs x → lin2 p q x ≤ s) ∧ ∃ x, Rg hs x ∧ lin2 p q x = s
theorem lin0 (x : Ray) : lin2 0 0 x = 0 := by
  unfold lin2
  grind
theorem sup_is {p q : Rat} {hs : List Hp3} (hd : ∀ g ∈ hs, Dir g) {x0 : Ray} (hx : Rg hs x0) : IsSup p q hs (supF p q hs) := by
  unfold supF
  by_cases c : p = 0 ∧ q = 0
  · rw [if_pos c]
    obtain ⟨rfl, rfl⟩ := c
    exact ⟨fun x _ => by rw [lin0]; exact Rat.le_refl, x0, hx, lin0 x0⟩
  · rw [if_neg c]
    cases e : least (bounds p q hs) with
    | none =>
      intro m
      have hn := least_none e
      rcases Rat.le_total (a := m) (b := lin2 p q x0) with z | z
      · exact ⟨x0, hx, z⟩
      · obtain ⟨x, hx, e⟩ := reach c hd hx (m := m) z (fun b hb => nomatch hn _ hb)
        exact ⟨x, hx, by rw [e]; exact Rat.le_refl⟩
    | some s =>
      obtain ⟨h1, h2⟩ := least_some e
      exact ⟨fun x hx => bound_ok hd hx h1, reach c hd hx (bound_ok hd hx h1) h2⟩
end PG

set_option maxRecDepth 100000
set_option maxHeartbeats 4000000

namespace PG
open PySem PySem.Spec PyProof.Rows L2 RT
abbrev Rng := Option (Option Rat × Option Rat)
def inR (lo hi : Option Rat) (x : Rat) : Prop := (∀ l, lo = some l → l ≤ x) ∧ (∀ u, hi = some u → x ≤ u)
def IsRng (S : Rat → Prop) : Rng → Prop
  | none => ∀ x, ¬ S x
  | some o => (∀ x, S x ↔ inR o.1 o.2 x) ∧ ∃ x, S x
theorem IsRng.congr {S T : Rat → Prop} (h : ∀ x, S x ↔ T x) : ∀ {o : Rng}, IsRng S o → IsRng T o
  | none, hs => fun x hx => hs x ((h x).mpr hx)
  | some o, hs => ⟨fun x => (h x).symm.trans (hs.1 x), hs.2.elim fun x hx => ⟨x, (h x).mp hx⟩⟩

end PG

set_option maxRecDepth 100000
set_option maxHeartbeats 4000000
namespace PG
open PySem PySem.Spec PyProof.Rows L2 RT

abbrev Wy := Int × Int
def free (hs : List Hp3) (w : Wy) : Bool := (!decide (w.1 = 0) || !decide (w.2 = 0)) && hs.all fun g => decide (g.p * w.1 + g.q * w.2 ≤ 0)
end PG

set_option maxRecDepth 100000
set_option maxHeartbeats 4000000
namespace PG
open PySem PySem.Spec PyProof.Rows L2 RT
end PG

set_option maxRecDepth 100000
set_option maxHeartbeats 4000000
namespace PG
open PySem PySem.Spec PyProof.Rows L2 RT
theorem HZ.zb {n : Nat} {g : Hp3} (h : HZ n g) : zb (g.p : Rat) ≤ n ∧ zb (g.q : Rat) ≤ n ∧ zb (g.r : Rat) ≤ n := by
  obtain ⟨a, b, c⟩ := h
  have := zb_int g.p
  have := zb_int g.q
  have := zb_int g.r
  omega
section
variable {st : List Cell} {Q : Vl → List Cell → Prop} {hs : List Hp3} {n : Nat} {g k : Hp3} {p q : Rat}
end
end PG

set_option maxRecDepth 100000
set_option maxHeartbeats 4000000

namespace PG
open PySem PySem.Spec PyProof.Rows L2 RT
section
variable {st : List Cell} {a b c x : Cell} {l : List Cell}
theorem at0 : (st ++ a :: l)[st.length]? = some a := by simp
end
section
variable {st : List Cell} {Q : Vl → List Cell → Prop}
end
end PG

set_option maxRecDepth 100000
set_option maxHeartbeats 4000000
namespace PG
open PySem PySem.Spec PyProof.Rows L2 RT
theorem ifs_t' {c : DT} {t : DS} {b : DS} {E : DEnds} {m : M} (m' : M) (hc : ∀ K : Bool → M → Prop, K true m' → c m K) (h : t ⟨b E, E.rt, E.bk, E.ct⟩ m') : dSeq (dIfS c t dNext) b E m := hc _ h
section
variable {st : List Cell} {Q : Vl → List Cell → Prop}
end
end PG

set_option maxRecDepth 100000
set_option maxHeartbeats 4000000
namespace PG
open PySem PySem.Spec PyProof.Rows L2 RT
def isEdge (es : List El) (m : Mp) (j : Nat) (up : Bool) (h : Hp3) : Prop := ∃ lo hi, es[j]? = some (.stop lo hi) ∧
  if up = true then ∃ u, hi = some u ∧ h = mkH (comp m (transfer (es.take j))).a (comp m (transfer (es.take j))).b (u - (comp m (transfer (es.take j))).e)
  else ∃ l, lo = some l ∧ h = mkH (-(comp m (transfer (es.take j))).a) (-(comp m (transfer (es.take j))).b) ((comp m (transfer (es.take j))).e - l)
theorem planes_mem : ∀ (es : List El) (k : Nat) (m : Mp) (x : Ed × Hp3), x ∈ planesOf k m es → ∃ j, x.1.1 = k + j ∧ isEdge es m j x.1.2 x.2
  | [], _, _, _, h => nomatch h
  | e :: es, k, m, x, h => by
    rcases List.mem_append.mp (show x ∈ edgesAt k e m ++ planesOf (k + 1) (comp m (elM e)) es from h) with h | h
    · refine ⟨0, ?_⟩
      have hc : comp m (transfer ((e :: es).take 0)) = m := comp_idr m
      cases e with
      | stop lo hi =>
        rcases List.mem_append.mp (show x ∈ lowE k lo m ++ uppE k hi m from h) with h | h
        · cases lo with
          | none => exact nomatch h
          | some l =>
            rw [show x = _ from List.mem_singleton.mp h]
            refine ⟨rfl, some l, hi, rfl, ?_⟩
            rw [if_neg Bool.false_ne_true, hc]
            exact ⟨l, rfl, rfl⟩
        · cases hi with
          | none => exact nomatch h
          | some l =>
            rw [show x = _ from List.mem_singleton.mp h]
            refine ⟨rfl, lo, some l, rfl, ?_⟩
            rw [if_pos rfl, hc]
            exact ⟨l, rfl, rfl⟩
      | _ => exact nomatch h
    · obtain ⟨j, hj, lo, hi, hs, hx⟩ := planes_mem es (k + 1) _ x h
      refine ⟨j + 1, by omega, lo, hi, hs, ?_⟩
      have hc : comp m (transfer ((e :: es).take (j + 1))) = comp (comp m (elM e)) (transfer (es.take j)) := by
        rw [List.take_succ_cons, transfer_cons, comp_assoc]
      rw [hc]
      exact hx
where
  comp_idr (m : Mp) : comp m (transfer []) = m := comp_id' m
  comp_id' (m : Mp) : comp m idM = m := id_comp m
end PG

set_option maxRecDepth 100000
set_option maxHeartbeats 4000000

namespace PG
open PySem PySem.Spec PyProof.Rows L2 RT
theorem mkH_prim {p q r : Rat} (h : ¬ (p = 0 ∧ q = 0)) : gcd3 (mkH p q r).p (mkH p q r).q (mkH p q r).r = 1 := by
  have hx : ¬ (mkX p q r = 0 ∧ mkY p q r = 0) := fun ⟨a, b⟩ => by
    have g := mkG_pos (r := r) h
    obtain ⟨t, ht, h1, h2, _⟩ := mkH_spec (r := r) h
    have z1 : (mkH p q r).p = 0 := by unfold mkH; rw [a]; exact Int.zero_ediv _
    have z2 : (mkH p q r).q = 0 := by unfold mkH; rw [b]; exact Int.zero_ediv _
    rw [z1] at h1
    rw [z2] at h2
    refine h ⟨?_, ?_⟩
    · have : t * p = 0 := h1.symm
      rcases Rat.mul_eq_zero.mp this with z | z
      · grind
      · exact z
    · have : t * q = 0 := h2.symm
      rcases Rat.mul_eq_zero.mp this with z | z
      · grind
      · exact z
  exact gcd3_div hx
end PG

set_option maxRecDepth 100000
set_option maxHeartbeats 4000000

namespace PG
open PySem PySem.Spec PyProof.Rows L2 RT
section
variable {st : List Cell} {Q : Vl → List Cell → Prop}
end
end PG

set_option maxRecDepth 100000
set_option maxHeartbeats 4000000

namespace PG
open PySem PySem.Spec PyProof.Rows L2 RT
section
variable {st : List Cell} {Q : Vl → List Cell → Prop}
end
end PG

set_option maxRecDepth 100000
set_option maxHeartbeats 4000000

namespace PG
open PySem PySem.Spec PyProof.Rows L2 RT
abbrev EP := Ed × Hp3
section
variable {st : List Cell} {Q : Vl → List Cell → Prop}
end
end PG

set_option maxRecDepth 100000
set_option maxHeartbeats 4000000
namespace PG
open PySem PySem.Spec PyProof.Rows L2 RT
structure Sl (k W : Nat) (d : Dt) : Prop where
  shw : (toPy d).showable = true
  itg : (toPy d).intsShort 600 = true
  lay : (toPy d).canLay0 = true
  dep : (toPy d).depth ≤ k
  wt : (toPy d).weight ≤ W
theorem Sl.le {k W k' W' : Nat} {d : Dt} (h : Sl k W d) (h1 : k ≤ k') (h2 : W ≤ W') : Sl k' W' d := ⟨h.shw, h.itg, h.lay, Nat.le_trans h.dep h1, Nat.le_trans h.wt h2⟩

section
variable {st : List Cell} {Q : Vl → List Cell → Prop}
end
end PG

set_option maxRecDepth 100000
set_option maxHeartbeats 4000000
namespace PG
open PySem PySem.Spec PyProof.Rows L2 RT

end PG

set_option maxRecDepth 100000
set_option maxHeartbeats 4000000
namespace PG
open PySem PySem.Spec PyProof.Rows L2 RT
def wD (w : Wy) : Dt := .tup [.int w.1, .int w.2]
section
variable {st : List Cell} {Q : Vl → List Cell → Prop} {hs : List Hp3} {n : Nat} {g : Hp3} {x : Ray}
end
end PG

set_option maxRecDepth 100000
set_option maxHeartbeats 4000000
namespace PG
open PySem PySem.Spec PyProof.Rows L2 RT
end PG

set_option maxRecDepth 100000
set_option maxHeartbeats 4000000
namespace PG
open PySem PySem.Spec PyProof.Rows L2 RT
theorem inf_is {p q : Rat} {hs : List Hp3} (hd : ∀ g ∈ hs, Dir g) {x0 : Ray} (hx : Rg hs x0) : match infF p q hs with
    | none => ∀ m, ∃ x, Rg hs x ∧ lin2 p q x ≤ m
    | some s => (∀ x, Rg hs x → s ≤ lin2 p q x) ∧ ∃ x, Rg hs x ∧ lin2 p q x = s := by
  have h := sup_is (p := -p) (q := -q) hd hx
  have ln : ∀ x, lin2 (-p) (-q) x = -lin2 p q x := fun x => by
    unfold lin2
    grind
  unfold infF
  cases e : supF (-p) (-q) hs with
  | none =>
    rw [e] at h
    intro m
    obtain ⟨x, hx, e⟩ := h (-m)
    rw [ln] at e
    exact ⟨x, hx, by grind⟩
  | some s =>
    rw [e] at h
    obtain ⟨h1, x, hx, e⟩ := h
    rw [ln] at e
    refine ⟨fun y hy => ?_, x, hx, by grind⟩
    have := h1 y hy
    rw [ln] at this
    grind
theorem mkH_dir {p q r : Rat} (h : ¬ (p = 0 ∧ q = 0)) : Dir (mkH p q r) := fun ⟨a, b⟩ => by
  obtain ⟨t, ht, h1, h2, h3⟩ := mkH_spec (r := r) h
  rw [a] at h1
  rw [b] at h2
  have z0 : ((0 : Int) : Rat) = 0 := rfl
  rw [z0] at h1 h2
  refine h ⟨?_, ?_⟩
  · exact (Rat.mul_eq_zero.mp h1.symm).resolve_left (by grind)
  · exact (Rat.mul_eq_zero.mp h2.symm).resolve_left (by grind)
theorem n10 : ¬ ((1 : Rat) = 0 ∧ (0 : Rat) = 0) := fun h => absurd h.1 (by decide)
def cut1 (h : Rat) (g : Hp3) : Rat := ((g.r : Rat) - (g.p : Rat) * h) * Rat.divInt 1 g.q
end PG

set_option maxRecDepth 100000
set_option maxHeartbeats 4000000

namespace PG
open PySem PySem.Spec PyProof.Rows L2 RT

end PG

set_option maxRecDepth 100000
set_option maxHeartbeats 4000000

namespace PG
open PySem PySem.Spec PyProof.Rows L2 RT
section
variable {st : List Cell} {Q : Vl → List Cell → Prop}
end
end PG

set_option maxRecDepth 100000
set_option maxHeartbeats 4000000
namespace PG
open PySem PySem.Spec PyProof.Rows L2 RT
section
variable {st : List Cell} {Q : Vl → List Cell → Prop}
end
end PG

set_option maxRecDepth 100000
set_option maxHeartbeats 4000000

namespace PG
open PySem PySem.Spec PyProof.Rows L2 RT
section
variable {st : List Cell} {Q : Vl → List Cell → Prop}
end
end PG

set_option maxRecDepth 100000
set_option maxHeartbeats 4000000
namespace PG
open PySem PySem.Spec PyProof.Rows L2 RT
section
variable {st : List Cell} {Q : Vl → List Cell → Prop}
end
end PG

set_option maxRecDepth 100000
set_option maxHeartbeats 4000000
namespace PG
open PySem PySem.Spec PyProof.Rows L2 RT
structure Lg (k L : Nat) (d : Dt) : Prop where
  shw : (toPy d).showable = true
  dep : (toPy d).depth ≤ k
  len : (toPy d).shown.length ≤ L
theorem Lg.le {k L k' L' : Nat} {d : Dt} (h : Lg k L d) (h1 : k ≤ k') (h2 : L ≤ L') : Lg k' L' d := ⟨h.shw, Nat.le_trans h.dep h1, Nat.le_trans h.len h2⟩
section
variable {ds : List Int} {i k : Nat} {st : List Cell} {Q : Vl → List Cell → Prop}
end
section
variable {st : List Cell} {Q : Vl → List Cell → Prop}
end
end PG

set_option maxRecDepth 100000
set_option maxHeartbeats 4000000

namespace PG
open PySem PySem.Spec PyProof.Rows L2 RT
section
variable {st : List Cell} {Q : Vl → List Cell → Prop}
end
end PG

set_option maxRecDepth 100000
set_option maxHeartbeats 4000000
namespace PG
open PySem PySem.Spec PyProof.Rows L2 RT
section
variable {st : List Cell} {Q : Vl → List Cell → Prop} {hs : List Hp3} {n : Nat} {g : Hp3} {x : Ray}
end
end PG

set_option maxRecDepth 100000
set_option maxHeartbeats 4000000
namespace PG
open PySem PySem.Spec PyProof.Rows L2 RT

end PG

set_option maxRecDepth 100000
set_option maxHeartbeats 4000000
namespace PG
open PySem PySem.Spec PyProof.Rows L2 RT

end PG

set_option maxRecDepth 100000
set_option maxHeartbeats 4000000
namespace PG
open PySem PySem.Spec PyProof.Rows L2 RT
section
variable {ds : List Int} {i k : Nat} {st : List Cell} {Q : Vl → List Cell → Prop} {hs : List Hp3}
end
end PG

set_option maxRecDepth 100000
set_option maxHeartbeats 4000000

namespace PG
open PySem PySem.Spec PyProof.Rows L2 RT
section
variable {st : List Cell} {Q : Vl → List Cell → Prop}
end
end PG

set_option maxRecDepth 100000
set_option maxHeartbeats 4000000

namespace PG
open PySem PySem.Spec PyProof.Rows L2 RT
section
variable {st : List Cell} {Q : Vl → List Cell → Prop}

end
end PG

set_option maxRecDepth 100000
set_option maxHeartbeats 4000000

namespace PG
open PySem PySem.Spec PyProof.Rows L2 RT
end PG

set_option maxRecDepth 100000
set_option maxHeartbeats 4000000
namespace PG
open PySem PySem.Spec PyProof.Rows L2 RT
section
variable {st : List Cell} {Q : Vl → List Cell → Prop}
end
end PG

set_option maxRecDepth 100000
set_option maxHeartbeats 4000000

namespace PG
open PySem PySem.Spec PyProof.Rows L2 RT
section
variable {st : List Cell} {Q : Vl → List Cell → Prop}
end

end PG

set_option maxRecDepth 100000
set_option maxHeartbeats 4000000

namespace PG
open PySem PySem.Spec PyProof.Rows L2 RT
end PG

set_option maxRecDepth 100000
set_option maxHeartbeats 4000000

namespace PG
open PySem PySem.Spec PyProof.Rows L2 RT
section
variable {st : List Cell} {Q : Vl → List Cell → Prop} {hs : List Hp3} {a : Hp3} {n : Nat}
end
end PG

set_option maxRecDepth 100000
set_option maxHeartbeats 4000000
namespace PG
open PySem PySem.Spec PyProof.Rows L2 RT
section
variable {st : List Cell} {Q : Vl → List Cell → Prop} {hs : List Hp3} {n : Nat} {g : Hp3}
end
end PG

set_option maxRecDepth 100000
set_option maxHeartbeats 4000000
namespace PG
open PySem PySem.Spec PyProof.Rows L2 RT
section
variable {st : List Cell} {Q : Vl → List Cell → Prop} {hs : List Hp3} {n : Nat} {g : Hp3}
end
end PG

set_option maxRecDepth 100000
set_option maxHeartbeats 4000000

namespace PG
open PySem PySem.Spec PyProof.Rows L2 RT
section
variable {st : List Cell} {Q : Vl → List Cell → Prop} {hs : List Hp3} {a g k : Hp3} {n : Nat}
end
end PG

set_option maxRecDepth 100000
set_option maxHeartbeats 4000000

namespace PG
open PySem PySem.Spec PyProof.Rows L2 RT
section
variable {st : List Cell} {Q : Vl → List Cell → Prop} {hs : List Hp3} {a : Hp3}
end

end PG

set_option maxRecDepth 100000
set_option maxHeartbeats 4000000

namespace PG
open PySem PySem.Spec PyProof.Rows L2 RT
def ElW : El → Prop
  | .gap g => In 12 12 g
  | e => ElIn e
theorem ElIn.w {e : El} (h : ElIn e) : ElW e := by
  cases e with
  | gap g => exact in_le (by decide) (Pn.in_ h)
  | lens p c => exact h
  | prism d => exact h
  | afocal m => exact h
  | stop lo hi => exact h
theorem ElW.z {e : El} (h : ElW e) : ElZ 12 e := by
  cases e with
  | gap g =>
    have := in_zb (b := 8) (by decide) h (by decide) (by decide) (by decide)
    show zb g ≤ 12
    omega
  | lens p c => exact ⟨Nat.le_trans (ElIn.z (e := .lens p c) h).1 (by decide), Nat.le_trans (ElIn.z (e := .lens p c) h).2 (by decide)⟩
  | prism d => exact Nat.le_trans (ElIn.z (e := .prism d) h) (by decide)
  | afocal m => exact ⟨Nat.le_trans (ElIn.z (e := .afocal m) h).1 (by decide), (ElIn.z (e := .afocal m) h).2⟩
  | stop lo hi => exact ⟨fun q e => Nat.le_trans ((ElIn.z (e := .stop lo hi) h).1 q e) (by decide), fun q e => Nat.le_trans ((ElIn.z (e := .stop lo hi) h).2 q e) (by decide)⟩
theorem ElZ.ok {n : Nat} {e : El} (h : ElZ n e) : ElOk e := by
  cases e with
  | afocal m => exact h.2
  | gap g => trivial
  | lens p c => trivial
  | prism d => trivial
  | stop lo hi => trivial
theorem ElZ.le {n k : Nat} {e : El} (h : ElZ n e) (hk : n ≤ k) : ElZ k e := by
  cases e with
  | afocal m => exact ⟨Nat.le_trans h.1 hk, h.2⟩
  | gap g => exact Nat.le_trans h hk
  | lens p c => exact ⟨Nat.le_trans h.1 hk, Nat.le_trans h.2 hk⟩
  | prism d => exact Nat.le_trans h hk
  | stop lo hi => exact ⟨fun q e => Nat.le_trans (h.1 q e) hk, fun q e => Nat.le_trans (h.2 q e) hk⟩
theorem ElZ.ez {n : Nat} {e : El} (h : ElZ n e) : Ez n e := by
  cases e with
  | afocal m => exact h
  | gap g => exact h
  | lens p c => exact h
  | prism d => exact h
  | stop lo hi => trivial

structure Tz (N : Nat) (es : List El) : Prop where
  el : ∀ e ∈ es, ElZ N e
  pre : ∀ k, MZ N (transfer (es.take k))
theorem Tz.ok {N : Nat} {es : List El} (T : Tz N es) : ∀ e ∈ es, ElOk e := fun e he => (T.el e he).ok
theorem Tz.le {N K : Nat} {es : List El} (T : Tz N es) (h : N ≤ K) : Tz K es := ⟨fun e he => (T.el e he).le h, fun k => (T.pre k).le h⟩
theorem Tz.all {N : Nat} {es : List El} (T : Tz N es) : MZ N (transfer es) := by
  have := T.pre es.length
  rw [List.take_length] at this
  exact this
theorem Tz.tk {N : Nat} {es : List El} (T : Tz N es) (j : Nat) : Tz N (es.take j) := ⟨fun e he => T.el e (List.mem_of_mem_take he), fun k => by rw [List.take_take]; exact T.pre _⟩
theorem Tz.dt {N : Nat} {es done rest : List El} (T : Tz N es) (e : es = done ++ rest) : det (transfer done) = 1 := det_transfer fun x hx => T.ok x (by rw [e]; exact List.mem_append_left _ hx)
section
variable {st : List Cell} {Q : Vl → List Cell → Prop}

end
end PG

set_option maxRecDepth 100000
set_option maxHeartbeats 4000000

namespace PG
open PySem PySem.Spec PyProof.Rows L2 RT
section
variable {st : List Cell} {Q : Vl → List Cell → Prop}
end
end PG

set_option maxRecDepth 100000
set_option maxHeartbeats 4000000

namespace PG
open PySem PySem.Spec PyProof.Rows L2 RT
section
variable {st : List Cell} {Q : Vl → List Cell → Prop}
end
end PG

set_option maxRecDepth 100000
set_option maxHeartbeats 4000000

namespace PG
open PySem PySem.Spec PyProof.Rows L2 RT
section
variable {st : List Cell} {Q : Vl → List Cell → Prop}
end
end PG

set_option maxRecDepth 100000
set_option maxHeartbeats 4000000

namespace PG
open PySem PySem.Spec PyProof.Rows L2 RT
abbrev CE := Ed × Rat × Mp
def clr (x : CE) (r : Ray) : Rat := if x.1.2 = true then x.2.1 - (appM x.2.2 r).1 else (appM x.2.2 r).1 - x.2.1
def cv (rays : List Ray) (x : CE) : Rat := (least (rays.map fun r => some (clr x r))).getD 0
structure CeIn (N : Nat) (es : List El) (x : CE) : Prop where
  lt : x.1.1 < es.length
  mp : x.2.2 = transfer (es.take x.1.1)
  mz : MZ N x.2.2
  hz : zb x.2.1 ≤ N

section
variable {st : List Cell} {Q : Vl → List Cell → Prop}
end
end PG

set_option maxRecDepth 100000
set_option maxHeartbeats 4000000

namespace PG
open PySem PySem.Spec PyProof.Rows L2 RT
theorem planes_dir {es : List El} (he : ∀ e ∈ es, ElOk e) : ∀ x ∈ planesOf 0 idM es, Dir x.2 ∧ gcd3 x.2.p x.2.q x.2.r = 1 := fun x hx => by
  obtain ⟨i, _, lo, hi', hs, hx⟩ := planes_mem es 0 idM x hx
  have dt : det (transfer (es.take i)) = 1 := det_transfer fun x hx => he x (List.mem_of_mem_take hx)
  have nz := nz_of_det dt
  rw [comp_id] at hx
  generalize transfer (es.take i) = t at *
  cases hu : x.1.2 with
  | true =>
    rw [hu, if_pos rfl] at hx
    obtain ⟨u, _, hx⟩ := hx
    rw [hx]
    exact ⟨mkH_dir nz, mkH_prim nz⟩
  | false =>
    rw [hu, if_neg (by decide)] at hx
    obtain ⟨u, _, hx⟩ := hx
    rw [hx]
    have nz' : ¬ (-t.a = 0 ∧ -t.b = 0) := fun z => nz ⟨by grind, by grind⟩
    exact ⟨mkH_dir nz', mkH_prim nz'⟩
section
variable {ds : List Int} {i k : Nat} {st : List Cell} {Q : Vl → List Cell → Prop}
end
section
variable {st : List Cell} {Q : Vl → List Cell → Prop}
end
end PG

set_option maxRecDepth 100000
set_option maxHeartbeats 4000000

namespace PG
open PySem PySem.Spec PyProof.Rows L2 RT
end PG

set_option maxRecDepth 100000
set_option maxHeartbeats 4000000

namespace PG
open PySem PySem.Spec PyProof.Rows L2 RT
namespace X
abbrev Sx (l : List Nat) : Str := SX.S l
theorem eqX {a b : List Nat} : eqD (.str (Sx a)) (.str (Sx b)) = decide (a = b) := by
  rw [eqS]
  exact decide_eq_decide.mpr ⟨SX.S_inj, fun h => by rw [h]⟩
def wD (w : List Nat) : Dt := .str (Sx w)
theorem signs_Sx (l : List Nat) : RT.signs (Sx l) = l.map fun c => wD [c] := by
  unfold RT.signs Sx SX.S
  rfl
theorem sx_sp : (" " : Str) = Sx [32] := by decide +kernel
theorem sx_sc : (";" : Str) = Sx [59] := by decide +kernel
theorem sx_e : ("" : Str) = Sx [] := by decide +kernel
def Asc (l : List Nat) : Prop := ∀ c ∈ l, c < 128
theorem sh_w {w : List Nat} (h : Asc w) : shD (wD w) := shS (by
  show PySem.PyData.strOk (Sx w) = true
  unfold PySem.PyData.strOk
  rw [← Array.all_toList, List.all_eq_true]
  intro c hc
  exact decide_eq_true (Nat.lt_trans (h c hc) (by decide)))
theorem asc_nil : Asc [] := fun _ h => nomatch h
theorem asc_one {c : Nat} (h : c < 128) : Asc [c] := fun x hx => by rw [List.mem_singleton.mp hx]; exact h
theorem asc_app {a b : List Nat} (h1 : Asc a) (h2 : Asc b) : Asc (a ++ b) := fun x hx => (List.mem_append.mp hx).elim (h1 x) (h2 x)
def tokR : List Nat → List (List Nat) → List Nat → List (List Nat)
  | [], acc, _ => acc
  | c :: r, acc, w => if c = 32 ∨ c = 59 then tokR r ((acc ++ if w = [] then [] else [w]) ++ if c = 59 then [[59]] else []) [] else tokR r acc (w ++ [c])
def toksF (l : List Nat) : List (List Nat) := tokR (l ++ [32]) [] []
section
variable {st : List Cell} {Q : Vl → List Cell → Prop}
theorem tokens_ok {l : List Nat} (hl : l.length ≤ 100000) (hc : Asc l) (h : Q (.d (.lst ((toksF l).map wD))) st) : sp_tokens_of [.d (.str (Sx l))] st Q := by
  unfold sp_tokens_of
  refine ⟨rfl, ?_⟩
  let t : Option Vl := some (.d (.str (Sx l)))
  let Y : List (List Nat) → List Nat → Option Vl → M := fun acc w z => ⟨[t, some (.c st.length), some (.d (wD w)), z], st ++ [Cell.lst (acc.map wD)]⟩
  obtain ⟨res, eres⟩ : ∃ res, toksF l = res := ⟨_, rfl⟩
  rw [eres] at h
  refine seq_to ⟨[t, some (.c st.length), none, none], st ++ [Cell.lst []]⟩ (fun K hK => ⟨lineN rfl, hK⟩) ?_
  refine seq_to (Y [] [] none) (fun K hK => ?_) ?_
  · show K ⟨[t, some (.c st.length), some (.d (.str ("" : Str))), none], st ++ [Cell.lst []]⟩
    rw [sx_e]
    exact hK
  refine seq_mid (fun m => ∃ w z, m = Y res w z) (fun K0 hK0 => ?_) ?_
  · show (Sx l).length + (" " : Str).length ≤ sizeLine ∧ _
    refine ⟨?_, ?_⟩
    · rw [SX.S_len, show (" " : Str).length = 1 by decide +kernel]
      exact Nat.le_of_lt (small_lt (by omega))
    show dLoop (.nm 3) _ (RT.signs (Sx l ++ (" " : Str))) none _ (RT.signs (Sx l ++ (" " : Str))) (Y [] [] none)
    rw [sx_sp, SX.S_cat, signs_Sx]
    refine each_inv (lk := none) (fun c => wD [c]) (fun rest m => ∃ acc w z n, tokR rest acc w = res ∧ n + rest.length = l.length + 1 ∧ acc.length ≤ 2 * n ∧ w.length ≤ n ∧ Asc w ∧ (∀ c ∈ rest, c < 128) ∧ m = Y acc w z) (fun _ _ _ => trivial) ?_ ?_ (l ++ [32]) _ ⟨[], [], none, 0, eres, by simp, Nat.le_refl _, Nat.le_refl _, asc_nil, asc_app hc (asc_one (by decide)), rfl⟩
    · rintro c rest _ K hK ⟨acc, w, z, n, hr, hn, ha, hw, haw, hrest, rfl⟩
      rw [List.length_cons] at hn
      have hc128 := hrest c List.mem_cons_self
      have hr' : ∀ x ∈ rest, x < 128 := fun x hx => hrest x (List.mem_cons_of_mem _ hx)
      have shc : shD (wD [c]) := sh_w (asc_one hc128)
      have s32 : shD (.str (" " : Str)) := by rw [sx_sp]; exact sh_w (asc_one (by decide))
      have s59 : shD (.str (";" : Str)) := by rw [sx_sc]; exact sh_w (asc_one (by decide))
      have s0 : shD (.str ("" : Str)) := by rw [sx_e]; exact sh_w asc_nil
      let z' : Option Vl := some (.d (wD [c]))
      have q32 : eqD (wD [c]) (.str (" " : Str)) = decide (c = 32) := by
        unfold wD
        rw [sx_sp, eqX]
        exact decide_eq_decide.mpr (by simp)
      have q59 : eqD (wD [c]) (.str (";" : Str)) = decide (c = 59) := by
        unfold wD
        rw [sx_sc, eqX]
        exact decide_eq_decide.mpr (by simp)
      unfold tokR at hr
      have cnd : ∀ K : Bool → M → Prop, K (decide (c = 32 ∨ c = 59)) (Y acc w z') → dOr (dTest (dOp RT.rEq (dVar 3) (dC (.str (" " : Str))))) (dTest (dOp RT.rEq (dVar 3) (dC (.str (";" : Str))))) (Y acc w z') K := fun K hK => by
        refine ⟨shc, s32, ?_⟩
        show if eqD (wD [c]) (.str (" " : Str)) = true then _ else _
        rw [q32]
        refine ifd (fun h1 => ?_) fun h1 => ?_
        · rw [decide_eq_true (.inl h1)] at hK
          exact hK
        · refine ⟨shc, s59, ?_⟩
          show K (eqD (wD [c]) (.str (";" : Str))) _
          rw [q59, show decide (c = 59) = decide (c = 32 ∨ c = 59) from decide_eq_decide.mpr ⟨.inr, fun h => h.elim (fun z => absurd z h1) id⟩]
          exact hK
      refine cnd _ ?_
      by_cases hsep : c = 32 ∨ c = 59
      · rw [if_pos hsep] at hr
        rw [if_pos (decide_eq_true hsep)]
        let acc1 := acc ++ (if w = [] then [] else [w])
        have l1 : acc1.length ≤ 2 * n + 1 := by
          show (acc ++ _).length ≤ _
          rw [List.length_append]
          split <;> simp <;> omega
        refine seq_to (Y acc1 w z') (fun K1 hK1 => ?_) ?_
        · refine ⟨sh_w haw, s0, ?_⟩
          show if (!eqD (wD w) (.str ("" : Str))) = true then _ else _
          have qw : eqD (wD w) (.str ("" : Str)) = decide (w = []) := by
            unfold wD
            rw [sx_e, eqX]
          rw [qw]
          by_cases e : w = []
          · rw [decide_eq_true e, if_neg (by decide)]
            show K1 (Y acc w z')
            dsimp only [acc1] at hK1
            rw [if_pos e, List.append_nil] at hK1
            exact hK1
          · rw [decide_eq_false e, if_pos (by decide)]
            refine append_st (k := st.length) (xs := acc.map wD) (wD w) ?_ ?_ (fun C hC => hC) (small_lt (by rw [List.length_map]; omega)) ?_
            · rfl
            · exact getElem_last _ _
            · show K1 ⟨_, (st ++ [_]).set st.length _⟩
              rw [set_last]
              dsimp only [acc1, Y] at hK1
              rw [if_neg e, List.map_append] at hK1
              exact hK1
        refine seq_to (Y acc1 [] z') (fun K1 hK1 => ?_) ?_
        · show K1 ⟨[t, some (.c st.length), some (.d (.str ("" : Str))), z'], st ++ [Cell.lst (acc1.map wD)]⟩
          rw [sx_e]
          exact hK1
        refine ⟨shc, s59, ?_⟩
        show if eqD (wD [c]) (.str (";" : Str)) = true then _ else _
        rw [q59]
        refine ifd (fun e => ?_) fun e => ?_
        · refine append_st (k := st.length) (xs := acc1.map wD) (wD [59]) ?_ ?_ (fun C hC => ?_) (small_lt (by rw [List.length_map]; omega)) ?_
          · rfl
          · exact getElem_last _ _
          · subst e
            exact hC
          · show K ⟨_, (st ++ [_]).set st.length _⟩
            rw [set_last]
            have := hK (Y (acc1 ++ [[59]]) [] z') ⟨_, _, _, n + 1, by rw [if_pos e] at hr; exact hr, by omega, by rw [List.length_append, List.length_singleton]; omega, Nat.zero_le _, asc_nil, hr', rfl⟩
            dsimp only [Y] at this
            rw [List.map_append] at this
            exact this
        · refine hK (Y acc1 [] z') ⟨_, _, _, n + 1, ?_, by omega, by omega, Nat.zero_le _, asc_nil, hr', rfl⟩
          rw [if_neg e, List.append_nil] at hr
          exact hr
      · rw [if_neg hsep] at hr
        rw [if_neg (by simpa using hsep)]
        show (Sx w).length + (Sx [c]).length ≤ sizeLine ∧ K ⟨[t, some (.c st.length), some (.d (.str (Sx w ++ Sx [c]))), z'], st ++ [Cell.lst (acc.map wD)]⟩
        rw [SX.S_len, SX.S_len, SX.S_cat]
        exact ⟨Nat.le_of_lt (small_lt (by simp; omega)), hK (Y acc (w ++ [c]) z') ⟨_, _, _, n + 1, hr, by omega, by omega, by rw [List.length_append, List.length_singleton]; omega, asc_app haw (asc_one hc128), hr', rfl⟩⟩
    · rintro _ ⟨acc, w, z, n, hr, _, _, _, _, _, rfl⟩
      have e : acc = res := hr
      subst e
      exact hK0 _ ⟨w, z, rfl⟩
  rintro _ ⟨w, z, rfl⟩
  refine Eq.mp (if_neg (Nat.lt_irrefl _)).symm (onC_mk (getElem_last _ _) ?_)
  show Q _ ((st ++ [_]).take st.length)
  rw [List.take_left]
  exact h
end
end X
end PG

set_option maxRecDepth 100000
set_option maxHeartbeats 4000000

namespace PG
open PySem PySem.Spec PyProof.Rows L2 RT
namespace X
theorem sx_0 : ("0" : Str) = Sx [48] := by decide +kernel
theorem sx_fig : v_FIGURES = wD [48, 49, 50, 51, 52, 53, 54, 55, 56, 57] := by
  unfold v_FIGURES wD
  rw [show ("0123456789" : Str) = Sx [48, 49, 50, 51, 52, 53, 54, 55, 56, 57] by decide +kernel]
theorem at0g {α : Type} (x : α) (xs : List α) : atI (x :: xs) 0 = some x := by
  unfold atI ixN
  rw [if_pos (by decide), if_pos (by simp)]
  rfl
def isDig (c : Nat) : Bool := decide (48 ≤ c) && decide (c ≤ 57)
def badN (l : List Nat) : Bool := decide (l = []) || (decide (7 < l.length) || (decide (l.head? = some 48) || !l.all isDig))
def natF (l : List Nat) : Option Nat := if badN l = true then none else if 1000000 < NumText.digitsVal l then none else some (NumText.digitsVal l)
def onD' : Option Nat → Dt
  | none => .non
  | some n => .int n
section
variable {st : List Cell} {Q : Vl → List Cell → Prop}
theorem natural_ok {l : List Nat} (hl : l.length ≤ 100000) (hc : Asc l) (h : Q (.d (onD' (natF l))) st) : sp_natural_of [.d (wD l)] st Q := by
  unfold sp_natural_of
  refine ⟨rfl, ?_⟩
  have cnd : ∀ K : Bool → M → Prop, K (badN l) ⟨[some (.d (wD l)), none, none], st⟩ → dOr (dTest (dOp rEq (dVar 0) (dC (.str ("" : Str))))) (dOr (dTest (dOp rGt (dBi bLen (dCons (dVar 0) dNil)) (dC PG.v_LONGEST))) (dOr (dTest (dOp rEq (dOp rIx (dVar 0) (dC (.int 0))) (dC (.str ("0" : Str))))) (dNot (dTru (dGx true (dSgn (dVar 0)) (.nm 2) (dOp (rInS false) (dVar 2) (dC PG.v_FIGURES)) [2]))))) ⟨[some (.d (wD l)), none, none], st⟩ K := fun K hK => by
    have s0 : shD (.str ("" : Str)) := by rw [sx_e]; exact sh_w asc_nil
    have s48 : shD (.str ("0" : Str)) := by rw [sx_0]; exact sh_w (asc_one (by decide))
    refine ⟨sh_w hc, s0, ?_⟩
    show if eqD (wD l) (.str ("" : Str)) = true then _ else _
    have qw : eqD (wD l) (.str ("" : Str)) = decide (l = []) := by
      unfold wD
      rw [sx_e, eqX]
    rw [qw]
    unfold badN at hK
    refine ifd (fun e => ?_) fun e => ?_
    · rw [decide_eq_true e] at hK
      exact hK
    rw [decide_eq_false e, Bool.false_or] at hK
    show (Sx l).length ≤ sizeLine ∧ True ∧ if decide ((7 : Int) < ((Sx l).length : Int)) = true then _ else _
    rw [SX.S_len]
    refine ⟨Nat.le_of_lt (small_lt (by omega)), trivial, ?_⟩
    refine ifd (fun e => ?_) fun e1 => ?_
    · rw [decide_eq_true (by omega : 7 < l.length)] at hK
      exact hK
    rw [decide_eq_false (by omega : ¬ 7 < l.length), Bool.false_or] at hK
    cases l with
    | nil => exact absurd rfl e
    | cons c r =>
    show (Sx (c :: r)).length ≤ sizeLine ∧ onO (atI (c :: r) 0) _
    rw [SX.S_len, at0g]
    refine ⟨Nat.le_of_lt (small_lt (by omega)), ?_⟩
    have hcc : c < 128 := hc c List.mem_cons_self
    refine ⟨sh_w (asc_one hcc), s48, ?_⟩
    show if eqD (wD [c]) (.str ("0" : Str)) = true then _ else _
    have q48 : eqD (wD [c]) (.str ("0" : Str)) = decide (c = 48) := by
      unfold wD
      rw [sx_0, eqX]
      exact decide_eq_decide.mpr (by simp)
    rw [q48]
    refine ifd (fun e => ?_) fun e2 => ?_
    · rw [decide_eq_true (by rw [e]; rfl : (c :: r).head? = some 48)] at hK
      exact hK
    rw [decide_eq_false (fun h => e2 (by simpa using h) : ¬ (c :: r).head? = some 48), Bool.false_or] at hK
    show dGxGo true _ _ (.nm 2) _ (RT.signs (Sx (c :: r))) none _ (RT.signs (Sx (c :: r))) st
    rw [signs_Sx]
    refine gx_all (fun c => wD [c]) isDig (fun x hx C hC => ?_) ?_
    · show dOp (rInS false) (dVar 2) (dC PG.v_FIGURES) ⟨[some (.d (wD (c :: r))), none, some (.d (wD [x]))], st⟩ C
      rw [sx_fig]
      show C (.d (.bl (!(Builtin.Str.occurrences (SX.S [48, 49, 50, 51, 52, 53, 54, 55, 56, 57]) (SX.S [x]) 0 (SX.S [48, 49, 50, 51, 52, 53, 54, 55, 56, 57]).length 1).isEmpty))) _
      rw [SX.in_one]
      have e : decide (x ∈ [48, 49, 50, 51, 52, 53, 54, 55, 56, 57]) = isDig x := by
        unfold isDig
        rw [← Bool.decide_and]
        exact decide_eq_decide.mpr (by simp; omega)
      rw [e]
      exact hC _
    · exact hK
  refine cnd _ ?_
  cases hb : badN l with
  | true =>
    rw [if_pos rfl]
    unfold natF at h
    rw [if_pos hb] at h
    exact ret_ok (kp := false) h
  | false =>
  rw [if_neg (by decide)]
  unfold dNext
  dsimp only
  have hn : natF l = if 1000000 < NumText.digitsVal l then none else some (NumText.digitsVal l) := by
    unfold natF
    rw [hb, if_neg (by decide)]
  unfold badN at hb
  rw [Bool.or_eq_false_iff, Bool.or_eq_false_iff, Bool.or_eq_false_iff] at hb
  obtain ⟨b1, b2, b3, b4⟩ := hb
  have b1 := of_decide_eq_false b1
  have b2 := of_decide_eq_false b2
  have b4' : l.all isDig = true := by simpa using b4
  refine seq_to ⟨[some (.d (wD l)), some (.d (.int (NumText.digitsVal l))), none], st⟩ (fun K hK => ?_) ?_
  · show (Sx l).length ≤ 640 ∧ ∃ n, PySem.intText? (Sx l) = some n ∧ _
    exact ⟨by rw [SX.S_len]; omega, _, SX.int_S b4' b1 (by omega), hK⟩
  show True ∧ if decide ((1000000 : Int) < ((NumText.digitsVal l : Nat) : Int)) = true then _ else _
  refine ⟨trivial, ?_⟩
  refine ifd (fun e => ?_) fun e => ?_
  · rw [hn, if_pos (by omega)] at h
    exact ret_ok (kp := false) h
  · rw [hn, if_neg (by omega)] at h
    exact ret_ok (kp := false) h
end
end X
end PG

set_option maxRecDepth 100000
set_option maxHeartbeats 4000000

namespace PG
open PySem PySem.Spec PyProof.Rows L2 RT
namespace X
theorem sx_mi : ("-" : Str) = Sx [45] := by decide +kernel
theorem sx_sl : ("/" : Str) = Sx [47] := by decide +kernel
theorem spl_mem : ∀ (l acc : List Nat), Asc acc → Asc l → ∀ p ∈ TL.spl [47] 0 acc l, Asc p ∧ p.length ≤ acc.length + l.length
  | [], acc, h1, _, p, hp => by
    unfold TL.spl at hp
    rw [List.mem_singleton.mp hp]
    exact ⟨h1, by simp⟩
  | c :: r, acc, h1, h2, p, hp => by
    have hr : Asc r := fun x hx => h2 x (List.mem_cons_of_mem _ hx)
    unfold TL.spl at hp
    split at hp
    · rcases List.mem_cons.mp hp with e | e
      · rw [e]
        exact ⟨h1, by omega⟩
      · obtain ⟨a, b⟩ := spl_mem r [] asc_nil hr p e
        refine ⟨a, ?_⟩
        rw [List.length_nil] at b
        rw [List.length_cons]
        omega
    · obtain ⟨a, b⟩ := spl_mem r (acc ++ [c]) (asc_app h1 (asc_one (h2 c List.mem_cons_self))) hr p hp
      refine ⟨a, ?_⟩
      rw [List.length_append, List.length_singleton] at b
      rw [List.length_cons]
      omega
theorem spl_len : ∀ (l acc : List Nat), (TL.spl [47] 0 acc l).length ≤ l.length + 1
  | [], acc => by
    unfold TL.spl
    exact Nat.le_refl _
  | c :: r, acc => by
    unfold TL.spl
    split
    · have := spl_len r []
      rw [List.length_cons, List.length_cons]
      exact Nat.add_le_add_right this 1
    · have := spl_len r (acc ++ [c])
      rw [List.length_cons]
      omega
theorem spl_ne : ∀ (l acc : List Nat), TL.spl [47] 0 acc l ≠ []
  | [], acc => by
    unfold TL.spl
    exact List.cons_ne_nil _ _
  | c :: r, acc => by
    unfold TL.spl
    split
    · exact List.cons_ne_nil _ _
    · exact spl_ne r _
def partsF (l : List Nat) : List (List Nat) := TL.spl [47] 0 [] (if l.take 1 = [45] then l.drop 1 else l)
def sgF (l : List Nat) (n : Nat) : Int := if l.take 1 = [45] then -(n : Int) else (n : Int)
def numsF (l : List Nat) : List (List Nat) → Option Rat
  | [p] => match natF p with
    | some n => some (Rat.divInt (sgF l n) 1)
    | none => none
  | [p, q] => match natF p, natF q with
    | some n, some d => some (Rat.divInt (sgF l n) (d : Int))
    | _, _ => none
  | _ => none
def fracF (l : List Nat) : Option Rat := if l = [48] then some 0 else numsF l (partsF l)
def frO : Option Rat → Dt
  | none => .non
  | some x => fr x
theorem natF_pos {l : List Nat} {n : Nat} (h : natF l = some n) : 0 < n ∧ n ≤ 1000000 := by
  unfold natF at h
  split at h
  · cases h
  rename_i hb
  split at h
  · cases h
  rename_i hm
  cases h
  refine ⟨?_, by omega⟩
  unfold badN at hb
  cases l with
  | nil => exact absurd rfl hb
  | cons c r =>
    simp [isDig] at hb
    refine NumText.digitsVal_pos ?_
    omega
section
variable {st : List Cell} {Q : Vl → List Cell → Prop}
theorem fraction_of_ok {l : List Nat} (hl : l.length ≤ 100000) (hc : Asc l) (h : Q (.d (frO (fracF l))) st) : sp_fraction_of [.d (wD l)] st Q := by
  unfold sp_fraction_of
  refine ⟨rfl, ?_⟩
  have s48 : shD (.str ("0" : Str)) := by rw [sx_0]; exact sh_w (asc_one (by decide))
  have s45 : shD (.str ("-" : Str)) := by rw [sx_mi]; exact sh_w (asc_one (by decide))
  refine ⟨sh_w hc, s48, ?_⟩
  show if eqD (wD l) (.str ("0" : Str)) = true then _ else _
  have q0 : eqD (wD l) (.str ("0" : Str)) = decide (l = [48]) := by
    unfold wD
    rw [sx_0, eqX]
  rw [q0]
  refine ifd (fun e => ?_) fun e => ?_
  · unfold fracF at h
    rw [if_pos e] at h
    exact ret_ok (kp := false) h
  have hf : fracF l = numsF l (partsF l) := by
    unfold fracF
    rw [if_neg e]
  rw [hf] at h
  clear hf
  unfold dNext
  dsimp only
  let T : Option Vl := some (.d (wD l))
  have cnd : ∀ (m : M) (hm : m.sl[0]? = some T) (K : Bool → M → Prop), K (decide (l.take 1 = [45])) m → dTest (dOp rEq (dSlS (dVar 0) dNoP (dPart (dC (.int 1)))) (dC (.str ("-" : Str)))) m K := fun m hm K hK => by
    unfold dTest dOp dSlS dVar
    rw [hm]
    show (Sx l).length ≤ sizeLine ∧ _
    rw [SX.S_len, C8.cutS_slice, SX.slice_to (by decide)]
    refine ⟨Nat.le_of_lt (small_lt (by omega)), ?_⟩
    have sa : Asc (l.take (1 : Int).toNat) := fun x hx => hc x (List.mem_of_mem_take hx)
    refine ⟨sh_w sa, s45, ?_⟩
    show K (eqD (.str (Sx (l.take 1))) (.str ("-" : Str))) m
    rw [sx_mi, eqX]
    exact hK
  obtain ⟨u, hu⟩ : ∃ u, (if l.take 1 = [45] then l.drop 1 else l) = u := ⟨_, rfl⟩
  have hua : Asc u ∧ u.length ≤ l.length := by
    rw [← hu]
    split
    · exact ⟨fun x hx => hc x (List.mem_of_mem_drop hx), by rw [List.length_drop]; omega⟩
    · exact ⟨hc, Nat.le_refl _⟩
  refine seq_to ⟨[T, T, none, none, none, none, none], st⟩ (fun K hK => hK) ?_
  refine seq_to ⟨[T, some (.d (wD u)), none, none, none, none, none], st⟩ (fun K hK => ?_) ?_
  · refine cnd _ rfl _ ?_
    refine ifd (fun e => ?_) fun e => ?_
    · show (Sx l).length ≤ sizeLine ∧ _
      rw [SX.S_len]
      refine ⟨Nat.le_of_lt (small_lt (by omega)), ?_⟩
      rw [C8.cutS_slice, SX.slice_from (by decide)]
      rw [if_pos e] at hu
      rw [← hu] at hK
      exact hK
    · rw [if_neg e] at hu
      rw [← hu] at hK
      exact hK
  have hpe : partsF l = TL.spl [47] 0 [] u := by
    unfold partsF
    rw [hu]
  obtain ⟨P, hP⟩ : ∃ P, partsF l = P := ⟨_, rfl⟩
  rw [hP] at h hpe
  have hPm : ∀ p ∈ P, Asc p ∧ p.length ≤ 100000 := fun p hp => by
    rw [hpe] at hp
    obtain ⟨a, b⟩ := spl_mem u [] asc_nil hua.1 p hp
    rw [List.length_nil] at b
    exact ⟨a, by omega⟩
  have hPl : P.length ≤ 100001 := by
    rw [hpe]
    have := spl_len u []
    omega
  have hPn : P ≠ [] := by
    rw [hpe]
    exact spl_ne u []
  refine seq_to ⟨[T, some (.d (wD u)), some (.d (.lst (P.map wD))), none, none, none, none], st⟩ (fun K hK => ?_) ?_
  · show (("/" : Str).length == 0) = false ∧ (Sx u).length + 2 ≤ sizeLine ∧ _
    rw [sx_sl, SX.S_len, SX.S_len, SX.split_S (List.cons_ne_nil _ _) (by decide), ← hpe, List.map_map]
    exact ⟨rfl, Nat.le_of_lt (small_lt (by omega)), hK⟩
  show True ∧ if decide ((2 : Int) < ((P.map wD).length : Int)) = true then _ else _
  rw [List.length_map]
  refine ⟨trivial, ?_⟩
  refine ifd (fun e => ?_) fun e2 => ?_
  · have : numsF l P = none := by
      match P, e with
      | [], e => rfl
      | [_], e => simp at e
      | [_, _], e => simp at e
      | _ :: _ :: _ :: _, _ => rfl
    rw [this] at h
    exact ret_ok (kp := false) h
  dsimp only
  refine seq_to ⟨[T, some (.d (wD u)), some (.d (.lst (P.map wD))), some (.d (.lst (P.map fun p => onD' (natF p)))), none, none, none], st⟩ (fun K hK => ?_) ?_
  · refine dlc_map wD (fun p => onD' (natF p)) (xs := P) (fun K2 h2 => h2) (fun p hp C hC => ?_) (by omega) hK
    exact natural_ok (hPm p hp).2 (hPm p hp).1 (hC _)
  have gx : ∀ K : Bool → M → Prop, K (P.any fun p => (natF p).isNone) ⟨[T, some (.d (wD u)), some (.d (.lst (P.map wD))), some (.d (.lst (P.map fun p => onD' (natF p)))), none, none, none], st⟩ → dTru (dGx false (dAny (dVar 3)) (.nm 6) (dIsN (dVar 6)) [6]) ⟨[T, some (.d (wD u)), some (.d (.lst (P.map wD))), some (.d (.lst (P.map fun p => onD' (natF p)))), none, none, none], st⟩ K := fun K hK => by
    show dGxGo false _ _ (.nm 6) _ (P.map fun p => onD' (natF p)) none _ (P.map fun p => onD' (natF p)) st
    refine gx_any (fun p => onD' (natF p)) (fun p => (natF p).isNone) (fun p hp C hC => ?_) hK
    have : (natF p).isNone = isN (onD' (natF p)) := by
      cases natF p <;> rfl
    rw [this] at hC
    exact hC _
  have fin : ∀ (n d : Nat) (L : List Dt), 0 < n ∧ n ≤ 1000000 → 0 < d ∧ d ≤ 1000000 → L.length ≤ 2 → atI L 0 = some (.int n) → atI (L ++ [.int 1]) 1 = some (.int d) → Q (.d (fr (Rat.divInt (sgF l n) (d : Int)))) st → dSeq (dSet 4 (dOp rIx (dVar 3) (dC (.int 0))))   (dSeq (dIfS (dTest (dOp rEq (dSlS (dVar 0) dNoP (dPart (dC (.int 1)))) (dC (.str ("-" : Str)))))   (dSet 4 (rU rNeg (dVar 4)))   dNext)   (dRet (dCall PG.sp_fraction [] (dCons (dVar 4) (dCons (dOp rIx (dOp rAddA (dVar 3) (dLst (dCons (dC (.int 1)) dNil))) (dC (.int 1))) dNil))))) (endsOf false st.length Q) ⟨[T, some (.d (wD u)), some (.d (.lst (P.map wD))), some (.d (.lst L)), none, none, none], st⟩ := fun n d L hn hd hL h0 h1 hq => by
    let X : Int → M := fun a => ⟨[T, some (.d (wD u)), some (.d (.lst (P.map wD))), some (.d (.lst L)), some (.d (.int a)), none, none], st⟩
    refine seq_to (X n) (fun K hK => ?_) ?_
    · show onO (atI L 0) _
      rw [h0]
      exact hK
    refine seq_to (X (sgF l n)) (fun K hK => ?_) ?_
    · refine cnd _ rfl _ ?_
      unfold sgF at hK
      refine ifd (fun e => ?_) fun e => ?_
      · rw [if_pos e] at hK
        exact hK
      · rw [if_neg e] at hK
        exact hK
    refine ret_st (m' := X (sgF l n)) (fr (Rat.divInt (sgF l n) (d : Int))) (fun K hK => ?_) (by rw [List.take_length]; exact hq)
    show 1 ≤ sizeLine ∧ L.length + 1 ≤ sizeLine ∧ onO (atI (L ++ [.int 1]) 1) _
    rw [h1]
    refine ⟨Nat.le_of_lt (small_lt (by omega)), Nat.le_of_lt (small_lt (by omega)), ?_⟩
    refine fraction_ok (by omega) ?_
    exact hK
  refine gx _ ?_
  have e2' : P.length ≤ 2 := by omega
  clear hPm hPl cnd gx
  match P, hPn, e2', h, fin with
  | [], c, _, _, _ => exact absurd rfl c
  | _ :: _ :: _ :: _, _, c, _, _ => simp at c
  | [p], _, _, h, fin =>
    cases hp : natF p with
    | none =>
      rw [show numsF l [p] = none by simp only [numsF, hp]] at h
      show if (List.any [p] fun p => (natF p).isNone) = true then _ else _
      rw [List.any_cons, hp]
      exact ret_ok (kp := false) h
    | some n =>
      rw [show numsF l [p] = some (Rat.divInt (sgF l n) 1) by simp only [numsF, hp]] at h
      show if (List.any [p] fun p => (natF p).isNone) = true then _ else _
      rw [List.any_cons, hp]
      refine fin n 1 ([p].map fun p => onD' (natF p)) (natF_pos hp) (by decide) (Nat.le_succ 1) ?_ ?_ h
      · rw [List.map_cons, hp, at0g]
        rfl
      · rw [List.map_cons, hp]
        rfl
  | [p, q], _, _, h, fin =>
    cases hp : natF p with
    | none =>
      rw [show numsF l [p, q] = none by simp only [numsF, hp]] at h
      show if (List.any [p, q] fun p => (natF p).isNone) = true then _ else _
      rw [List.any_cons, hp]
      exact ret_ok (kp := false) h
    | some n =>
      cases hq : natF q with
      | none =>
        rw [show numsF l [p, q] = none by simp only [numsF, hp, hq]] at h
        show if (List.any [p, q] fun p => (natF p).isNone) = true then _ else _
        rw [List.any_cons, List.any_cons, hp, hq]
        exact ret_ok (kp := false) h
      | some d =>
        rw [show numsF l [p, q] = some (Rat.divInt (sgF l n) (d : Int)) by simp only [numsF, hp, hq]] at h
        show if (List.any [p, q] fun p => (natF p).isNone) = true then _ else _
        rw [List.any_cons, List.any_cons, hp, hq]
        refine fin n d ([p, q].map fun p => onD' (natF p)) (natF_pos hp) (natF_pos hq) (Nat.le_refl 2) ?_ ?_ h
        · rw [List.map_cons, hp, at0g]
          rfl
        · rw [List.map_cons, List.map_cons, hp, hq]
          rfl
end
end X
end PG

set_option maxRecDepth 100000
set_option maxHeartbeats 4000000

namespace PG
open PySem PySem.Spec PyProof.Rows L2 RT
namespace S

def rc (es : List El) (i k : Nat) (p : Rat) : Rat := if k < i then 0 else if k = i then -1 else (transfer ((es.take k).drop (i + 1))).b * p
end S
end PG

set_option maxRecDepth 100000
set_option maxHeartbeats 4000000

namespace PG
open PySem PySem.Spec PyProof.Rows L2 RT
namespace S

end S
end PG

set_option maxRecDepth 100000
set_option maxHeartbeats 4000000

namespace PG
open PySem PySem.Spec PyProof.Rows L2 RT
namespace S
section
variable {st : List Cell} {os : RT.OS} {QO : Vl → List Cell → RT.OS → Prop} {Ex : EXS} {Q : Vl → List Cell → Prop}
theorem xguard {ct : RT.OS → DT} {a rest : DSO} {Ex : EXO} {E : DOEnds} {m : M} (m' : M) (hc : ∀ K : Bool → M → Prop, K false m' → ct os m K) (h : rest Ex E m' os) : xSeq (xIf (xT ct) a xNext) rest Ex E m os := hc _ (by
  dsimp only
  rw [if_neg Bool.false_ne_true]
  exact h)
theorem xthen {ct : RT.OS → DT} {a b rest : DSO} {Ex : EXO} {E : DOEnds} {m : M} (m' : M) (hc : ∀ K : Bool → M → Prop, K true m' → ct os m K) (h : a Ex ⟨fun m1 os1 => rest Ex E m1 os1, E.rt, E.bk, E.ct⟩ m' os) : xSeq (xIf (xT ct) a b) rest Ex E m os := hc _ (by
  dsimp only
  rw [if_pos rfl]
  exact h)
theorem xseq_to {t : RT.OS → DS} {rest : DSO} {Ex : EXO} {E : DOEnds} {m : M} (m' : M) (h1 : ∀ K : DEnds, K.nx m' → t os K m) (h2 : rest Ex E m' os) : xSeq (xS t) rest Ex E m os := h1 _ h2
def nmE : El → Str
  | .gap _ => "gap"
  | .lens _ _ => "lens"
  | .prism _ => "prism"
  | .afocal _ => "afocal"
  | .stop _ _ => "stop"
theorem shN (e : El) : shD (.str (nmE e)) := by
  cases e
  · exact s_gap
  · exact s_lens
  · exact s_prism
  · exact s_afocal
  · exact s_stop
theorem nm_ix {e : El} {P : Dt → Prop} (h : P (.str (nmE e))) : RT.rIx (elD e) (.int 0) P := by
  cases e <;> exact rIx_mk rfl h
end
end S
end PG

set_option maxRecDepth 100000
set_option maxHeartbeats 4000000

namespace PG
open PySem PySem.Spec PyProof.Rows L2 RT
namespace S
section
variable {st : List Cell} {Q : Vl → List Cell → Prop}
end
end S
end PG

set_option maxRecDepth 100000
set_option maxHeartbeats 4000000

namespace PG
open PySem PySem.Spec PyProof.Rows L2 RT
namespace S
theorem xguardS {os : RT.OS} {ct : DT} {a : DS} {rest : DSO} {Ex : EXO} {E : DOEnds} {m : M} (m' : M) (hc : ∀ K : Bool → M → Prop, K false m' → ct m K) (h : rest Ex E m' os) : xSeq (xS fun _ => dIfS ct a dNext) rest Ex E m os := hc _ (by
  dsimp only
  rw [if_neg Bool.false_ne_true]
  exact h)
theorem xthenS {os : RT.OS} {ct : DT} {a : DS} {rest : DSO} {Ex : EXO} {E : DOEnds} {m : M} (m' : M) (hc : ∀ K : Bool → M → Prop, K true m' → ct m K) (h : a ⟨fun m1 => rest Ex E m1 os, fun v m1 => E.rt v m1 os, fun m1 => E.bk m1 os, fun m1 => E.ct m1 os⟩ m') : xSeq (xS fun _ => dIfS ct a dNext) rest Ex E m os := hc _ (by
  dsimp only
  rw [if_pos rfl]
  exact h)
theorem tkB {Q : Vl → List Cell → Prop} {v : Vl} {st c : List Cell} (h : Q v st) : Q v ((st ++ c).take st.length) := by
  rw [List.take_left]
  exact h
section
variable {st : List Cell} {Q : Vl → List Cell → Prop}
end
end S
end PG

set_option maxRecDepth 100000
set_option maxHeartbeats 4000000

namespace PG
open PySem PySem.Spec PyProof.Rows L2 RT
namespace S
section
variable {st : List Cell} {Q : Vl → List Cell → Prop}
theorem onV_dm {m : M} {x : Dt} {P : Dt → Prop} (h : P x) : onV m (.d x) P := h
end
end S
end PG

set_option maxRecDepth 100000
set_option maxHeartbeats 4000000

namespace PG
open PySem PySem.Spec PyProof.Rows L2 RT
namespace S
section
variable {st : List Cell} {Q : Vl → List Cell → Prop}
end
end S
end PG

set_option maxRecDepth 100000
set_option maxHeartbeats 4000000

namespace PG
namespace B
open PySem PySem.Spec PyProof.Rows L2 RT
def Pg (g : Hp3) : Prop := Dir g ∧ gcd3 g.p g.q g.r = 1 ∧ HZ 1900 g
theorem Pg.z {g : Hp3} (h : Pg g) : HZ 1900 g := h.2.2
theorem Pg.ab {g : Hp3} (h : Pg g) : g.p.natAbs.log2 ≤ 2000 ∧ g.q.natAbs.log2 ≤ 2000 ∧ g.r.natAbs.log2 ≤ 2000 ∧ 0 < n1 g ∧ (n1 g).natAbs.log2 ≤ 2000 := by
  have := n1_pos h.1
  have := lgn1 h.z
  obtain ⟨_, _, a, b, c⟩ := h
  omega
section
variable {st : List Cell} {Q : Vl → List Cell → Prop} {g k : Hp3}
end
end B
end PG

set_option maxRecDepth 100000
set_option maxHeartbeats 4000000

namespace PG
namespace B
open PySem PySem.Spec PyProof.Rows L2 RT
end B
end PG

set_option maxRecDepth 100000
set_option maxHeartbeats 4000000

namespace PG
namespace B
open PySem PySem.Spec PyProof.Rows L2 RT
theorem HZ.le {n m : Nat} {g : Hp3} (h : HZ n g) (hm : n ≤ m) : HZ m g := ⟨by have := h.1; omega, by have := h.2.1; omega, by have := h.2.2; omega⟩

end B
end PG

set_option maxRecDepth 100000
set_option maxHeartbeats 4000000

namespace PG
namespace B
open PySem PySem.Spec PyProof.Rows L2 RT

def agree (m n : Mp) (x : Ray) : Prop := appM m x = appM n x

def Alike (a : List Hp3) (m : Mp) (b : List Hp3) (n : Mp) : Prop := (∀ x, Rg a x ↔ Rg b x) ∧ ∀ x, Rg a x → agree m n x
theorem Alike.symm {a b : List Hp3} {m n : Mp} (h : Alike a m b n) : Alike b n a m := ⟨fun x => (h.1 x).symm, fun x hx => (h.2 x ((h.1 x).mpr hx)).symm⟩

end B
end PG

set_option maxRecDepth 100000
set_option maxHeartbeats 4000000

namespace PG
namespace B
open PySem PySem.Spec PyProof.Rows L2 RT
section
variable {st : List Cell} {Q : Vl → List Cell → Prop}
def plT (es : List El) : List Hp3 := (planesOf 0 idM es).map (·.2)
structure Tp (N n : Nat) (es : List El) : Prop where
  tz : Tz N es
  len : es.length ≤ 200
  hz : ∀ g ∈ plT es, HZ n g
  ln : (plT es).length ≤ 40
theorem Tp.pg {N n : Nat} {es : List El} (T : Tp N n es) (hn : n ≤ 1900) : ∀ g ∈ plT es, Pg g := fun g hg => by
  obtain ⟨x, hx, rfl⟩ := List.mem_map.mp hg
  have := planes_dir T.tz.ok x hx
  exact ⟨this.1, this.2, HZ.le (T.hz _ hg) hn⟩

end
end B
end PG

set_option maxRecDepth 100000
set_option maxHeartbeats 4000000

namespace PG
namespace B
open PySem PySem.Spec PyProof.Rows L2 RT
section
variable {st : List Cell} {Q : Vl → List Cell → Prop}
end
end B
end PG

set_option maxRecDepth 100000
set_option maxHeartbeats 4000000

namespace PG
namespace B
open PySem PySem.Spec PyProof.Rows L2 RT
theorem pn_neg {q : Rat} : Pn q → Pn (-q) := fun ⟨a, z, e, h1, h2, h3⟩ => ⟨-a, z, by rw [e, Rat.neg_divInt], by omega, h2, h3⟩
theorem set_same {α : Type} {l : List α} {k : Nat} {x : α} (h : l[k]? = some x) : l.set k x = l := by
  refine List.ext_getElem? fun n => ?_
  rw [List.getElem?_set]
  split
  · rename_i e
    rw [← e, h, if_pos (List.getElem?_eq_some_iff.mp h).1]
  · rfl
section
variable {ds : List Int} {i k : Nat} {st : List Cell} {Q : Vl → List Cell → Prop}
theorem other_ok {es : List El} (he : ∀ e ∈ es, ElIn e) (hl : es.length ≤ 10) (hk : st[k]? = some (Bx ds i)) (hi : i < 10000) (h : ∀ (fs : List El) (j : Nat), fs.length ≤ 3 * es.length → (∀ e ∈ fs, ElW e) → j ≤ i + 10 * es.length → Q (.d (.lst (fs.map elD))) (st.set k (Bx ds j))) : sp__law_other_2 [.c k, .d (.lst (es.map elD))] st Q := by
  have hlt : k < st.length := (List.getElem?_eq_some_iff.mp hk).1
  have hln : ∀ c : Cell, (st.set k c).length = st.length := fun c => List.length_set
  let V : Nat → List Cell → List El → List Cell := fun j jk acc => st.set k (Bx ds j) ++ (jk ++ [Cell.lst (acc.map elD)])
  have vk : ∀ j jk acc, (V j jk acc)[k]? = some (Bx ds j) := fun j jk acc => by
    show (st.set k (Bx ds j) ++ _)[k]? = _
    rw [List.getElem?_append_left (by rw [hln]; exact hlt)]
    simp [hlt]
  have vset : ∀ j jk acc j', (V j jk acc).set k (Bx ds j') = V j' jk acc := fun j jk acc j' => by
    show (st.set k (Bx ds j) ++ _).set k _ = _
    rw [List.set_append_left _ _ (by rw [hln]; exact hlt), List.set_set]
  have vg : ∀ j jk acc, (V j jk acc)[st.length + jk.length]? = some (Cell.lst (acc.map elD)) := fun j jk acc => by
    show (st.set k (Bx ds j) ++ _)[st.length + jk.length]? = _
    rw [List.getElem?_append_right (by rw [hln]; omega), hln, Nat.add_sub_cancel_left]
    exact getElem_last _ _
  have vs : ∀ j jk acc acc', (V j jk acc).set (st.length + jk.length) (Cell.lst (acc'.map elD)) = V j jk acc' := fun j jk acc acc' => by
    show (st.set k (Bx ds j) ++ _).set (st.length + jk.length) _ = _
    rw [List.set_append_right _ _ (by rw [hln]; omega), hln, Nat.add_sub_cancel_left, set_last]
  have vl : ∀ j jk acc, (V j jk acc).length = st.length + (jk.length + 1) := fun j jk acc => by
    show (st.set k (Bx ds j) ++ (jk ++ [_])).length = _
    rw [List.length_append, hln, List.length_append, List.length_singleton]
  have vapp : ∀ j jk acc c, V j jk acc ++ [Cell.lst (c.map elD)] = V j (jk ++ [Cell.lst (acc.map elD)]) c := fun j jk acc c => by
    show st.set k (Bx ds j) ++ (jk ++ [_]) ++ [_] = st.set k (Bx ds j) ++ ((jk ++ [_]) ++ [_])
    rw [List.append_assoc]
  unfold sp__law_other_2
  refine ⟨rfl, ?_⟩
  let S : List Cell → Nat → Option Vl → Option Vl → Option Vl → Option Vl → M := fun s c z3 z4 z5 z6 => ⟨[some (.c k), some (.d (.lst (es.map elD))), some (.c c), z3, z4, z5, z6], s⟩
  refine seq_to (S (V i [] []) st.length none none none none) (fun K hK => ⟨lineN rfl, ?_⟩) ?_
  · have e : V i [] [] = st ++ [Cell.lst []] := by
      show st.set k (Bx ds i) ++ _ = _
      rw [set_same hk]
      rfl
    rw [e] at hK
    exact hK
  refine seq_mid (fun m => ∃ acc j jk z3 z4 z5 z6, acc.length ≤ 3 * es.length ∧ (∀ e ∈ acc, ElW e) ∧ j ≤ i + 10 * es.length ∧ m = S (V j jk acc) (st.length + jk.length) z3 z4 z5 z6) (fun K hK => ?_) ?_
  · refine each_inv (lk := none) elD (fun r m => ∃ done acc j jk z3 z4 z5 z6, es = done ++ r ∧ acc.length ≤ 3 * done.length ∧ (∀ e ∈ acc, ElW e) ∧ j ≤ i + 10 * done.length ∧ m = S (V j jk acc) (st.length + jk.length) z3 z4 z5 z6) (fun _ _ _ => trivial) ?_ ?_ es _ ⟨[], [], i, [], none, none, none, none, rfl, Nat.zero_le _, (fun _ h => nomatch h), by omega, rfl⟩
    · rintro e r _ K2 hK2 ⟨done, acc, j, jk, z3, z4, z5, z6, e1, hal, haw, hj, rfl⟩
      have hm : e ∈ es := by rw [e1]; exact List.mem_append_right _ List.mem_cons_self
      have hlen : es.length = done.length + (r.length + 1) := by rw [e1, List.length_append, List.length_cons]
      have hin := he e hm
      let t3 : Option Vl := some (.d (elD e))
      have fin : ∀ (new : List El) (j' : Nat) (jk' : List Cell) z4 z5 z6, new.length ≤ 3 → (∀ e ∈ new, ElW e) → j' ≤ j + 10 → K2 (S (V j' jk' (acc ++ new)) (st.length + jk'.length) t3 z4 z5 z6) := fun new j' jk' z4 z5 z6 h1 h2 h3 => by
        refine hK2 _ ⟨done ++ [e], acc ++ new, j', jk', _, _, _, _, by rw [e1, List.append_assoc]; rfl, ?_, fun x hx => ?_, ?_, rfl⟩
        · rw [List.length_append, List.length_append, List.length_singleton]; omega
        · rcases List.mem_append.mp hx with h | h
          · exact haw x h
          · exact h2 x h
        · rw [List.length_append, List.length_singleton]; omega
      have hsm : acc.length < 16777216 := by omega
      refine seq_mid (fun m => ∃ w : Int, 0 ≤ w ∧ w < 6 ∧ m = S (V (j + 1) jk acc) (st.length + jk.length) t3 (some (.d (.int w))) z5 z6) (fun K hK => draw2_ok (vk j jk acc) (by decide) (by omega) fun w w0 w1 => hK _ ⟨w, w0, w1, by rw [vset]; rfl⟩) ?_
      rintro _ ⟨w, w0, w1, rfl⟩
      let W : M := S (V (j + 1) jk acc) (st.length + jk.length) t3 (some (.d (.int w))) z5 z6
      -- the last way: the element itself
      have self : ∀ j' z5 z6, j' ≤ j + 10 → dDo (dMeth mAppend (dVar 2) (dCons (dVar 3) dNil)) ⟨K2, (endsOf false st.length Q).rt, K, K2⟩ (S (V j' jk acc) (st.length + jk.length) t3 (some (.d (.int w))) z5 z6) := fun j' z5 z6 hj' => by
        refine append_st (k := st.length + jk.length) (xs := acc.map elD) (elD e) rfl (vg _ _ _) (fun C hC => hC) (small_lt (by rw [List.length_map]; exact hsm)) ?_
        have e2 : acc.map elD ++ [elD e] = (acc ++ [e]).map elD := by rw [List.map_append]; rfl
        show K2 ⟨_, (V j' jk acc).set (st.length + jk.length) (Cell.lst (acc.map elD ++ [elD e]))⟩
        rw [e2, vs]
        exact fin [e] j' jk _ _ _ (Nat.le_of_ble_eq_true rfl) (fun x hx => by rw [List.mem_singleton.mp hx]; exact hin.w) hj'
      have iseq : ∀ (n : Int) (K : Bool → M → Prop), K (decide (w = n)) W → dTest (dOp RT.rEq (dVar 4) (RT.dC (.int n))) W K := fun n K hK => ⟨rfl, rfl, by
        show K (eqD (.int w) (.int n)) W
        rw [eqD_int]
        exact hK⟩
      have istag : ∀ (s : Str) (K : Bool → M → Prop), shD (.str s) → K (decide (tag e = s)) W → dTest (dOp RT.rEq (dOp RT.rIx (dVar 3) (RT.dC (.int 0))) (RT.dC (.str s))) W K := fun s K hs hK => by
        have : atI (match elD e with | .tup xs => xs | _ => []) 0 = some (.str (tag e)) := by cases e <;> rfl
        have go : ∀ P : Dt → Prop, P (.str (tag e)) → RT.rIx (elD e) (.int 0) P := fun P hP => by cases e <;> exact hP
        refine go _ ⟨s_tag e, hs, ?_⟩
        show K (eqD (.str (tag e)) (.str s)) W
        rw [eqS]
        exact hK
      have two : ∀ {s : Str} (n : Int) (K : Bool → M → Prop), shD (.str s) → K (decide (w = n) && decide (tag e = s)) W → dAnd (dTest (dOp RT.rEq (dVar 4) (RT.dC (.int n)))) (dTest (dOp RT.rEq (dOp RT.rIx (dVar 3) (RT.dC (.int 0))) (RT.dC (.str s)))) W K := fun {s} n K hs hK => by
        refine iseq n _ ?_
        cases c : decide (w = n) with
        | true =>
          rw [c, Bool.true_and] at hK
          rw [if_pos rfl]
          exact istag s K hs hK
        | false =>
          rw [c, Bool.false_and] at hK
          rw [if_neg Bool.false_ne_true]
          exact hK
      by_cases c0 : w = 0 ∧ tag e = ("gap" : Str)
      · obtain ⟨rfl, ct⟩ := c0
        refine ifs_t W (fun K hK => two 0 K s_gap (by rw [decide_eq_true rfl, decide_eq_true ct]; exact hK)) ?_
        cases e with
        | gap g =>
          have hg : Pn g := hin
          refine seq_mid (fun m => ∃ q : Rat, Pn q ∧ m = S (V (j + 3) jk acc) (st.length + jk.length) t3 (some (.d (.int 0))) (some (.d (fr q))) z6) (fun K hK => frac2_ok (vk (j + 1) jk acc) (by omega) fun q hq => hK _ ⟨q, hq, by rw [vset]; rfl⟩) ?_
          rintro _ ⟨q, hq, rfl⟩
          have a1 : In 12 12 q := in_le (by decide) hq.in_
          have a2 : In 12 12 (g - q) := in_sub hg.in_ hq.in_
          have e2 : acc.map elD ++ [elD (El.gap q)] = (acc ++ [El.gap q]).map elD := by rw [List.map_append]; rfl
          refine seq_to (S (V (j + 3) jk (acc ++ [El.gap q])) (st.length + jk.length) t3 (some (.d (.int 0))) (some (.d (fr q))) z6) (fun K hK => ?_) ?_
          · refine append_st (k := st.length + jk.length) (xs := acc.map elD) (elD (El.gap q)) rfl (vg _ _ _) (fun C hC => ⟨lineN rfl, hC⟩) (small_lt (by rw [List.length_map]; exact hsm)) ?_
            show K ⟨_, (V (j + 3) jk acc).set (st.length + jk.length) (Cell.lst (acc.map elD ++ [elD (El.gap q)]))⟩
            rw [e2, vs]
            exact hK
          have e3 : (acc ++ [El.gap q]).map elD ++ [elD (El.gap (g - q))] = (acc ++ [El.gap q, El.gap (g - q)]).map elD := by rw [List.map_append, List.map_append, List.append_assoc]; rfl
          refine append_st (k := st.length + jk.length) (xs := (acc ++ [El.gap q]).map elD) (elD (El.gap (g - q))) rfl (vg _ _ _) (fun C hC => ?_) (small_lt (by rw [List.length_map, List.length_append, List.length_singleton]; omega)) ?_
          · have := hg.zb
            have := hq.zb
            refine lsub2_ok (x := g) (y := q) (zm (by omega)) ?_
            exact ⟨lineN rfl, hC⟩
          · show K2 ⟨_, (V (j + 3) jk (acc ++ [El.gap q])).set (st.length + jk.length) (Cell.lst ((acc ++ [El.gap q]).map elD ++ [elD (El.gap (g - q))]))⟩
            rw [e3, vs]
            refine fin [El.gap q, El.gap (g - q)] (j + 3) jk _ _ _ (Nat.le_of_ble_eq_true rfl) (fun x hx => ?_) (by omega)
            simp only [List.mem_cons, List.not_mem_nil, or_false] at hx
            rcases hx with rfl | rfl
            · exact a1
            · exact a2
        | lens p c => exact absurd ct (of_decide_eq_false ne_lg)
        | prism p => exact absurd ct (of_decide_eq_false ne_pg)
        | afocal p => exact absurd ct (of_decide_eq_false ne_ag)
        | stop p c => exact absurd ct (of_decide_eq_false ne_sg)
      have els : ∀ {c : DT} {t u : DS} (hc : ∀ K : Bool → M → Prop, K false W → c W K), u ⟨K2, (endsOf false st.length Q).rt, K, K2⟩ W → dIfS c t u ⟨K2, (endsOf false st.length Q).rt, K, K2⟩ W := fun hc hu => hc _ hu
      refine els (fun K hK => two 0 K s_gap (by
        rw [show (decide (w = 0) && decide (tag e = ("gap" : Str))) = false by rw [← Bool.decide_and]; exact decide_eq_false c0]
        exact hK)) ?_
      by_cases c1 : w = 1
      · refine ifs_t W (fun K hK => iseq 1 K (by rw [decide_eq_true c1]; exact hK)) ?_
        refine seq_mid (fun m => ∃ q : Rat, Pn q ∧ m = S (V (j + 3) jk acc) (st.length + jk.length) t3 (some (.d (.int w))) z5 (some (.d (fr q)))) (fun K hK => nonzero_ok (vk (j + 1) jk acc) (by omega) fun q hq _ => hK _ ⟨q, hq, by rw [vset]; rfl⟩) ?_
        rintro _ ⟨q, hq, rfl⟩
        have e2 : acc.map elD ++ [elD (El.lens q 0), elD (El.lens (-q) 0), elD e] = (acc ++ [El.lens q 0, El.lens (-q) 0, e]).map elD := by rw [List.map_append]; rfl
        refine ⟨lineN rfl, lineN rfl, ?_⟩
        refine lneg_ok ?_
        refine ⟨lineN rfl, lineN rfl, lineN rfl, ?_⟩
        refine onV_c (vg _ _ _) ?_
        refine ⟨by rw [List.length_map]; exact Nat.le_of_lt (small_lt (by show acc.length + 3 < _; omega)), ?_⟩
        show K2 ⟨_, V (j + 3) jk acc ++ [Cell.lst (acc.map elD ++ [elD (El.lens q 0), elD (El.lens (-q) 0), elD e])]⟩
        have := fin [El.lens q 0, El.lens (-q) 0, e] (j + 3) (jk ++ [Cell.lst (acc.map elD)]) (some (.d (.int w))) z5 (some (.d (fr q))) (Nat.le_of_ble_eq_true rfl) (fun x hx => by
          simp only [List.mem_cons, List.not_mem_nil, or_false] at hx
          rcases hx with rfl | rfl | rfl
          · exact ⟨hq, pn_zero⟩
          · exact ⟨pn_neg hq, pn_zero⟩
          · exact hin.w) (by omega)
        rw [← vapp, ← e2, List.length_append, List.length_singleton, ← vl (j + 3) jk acc] at this
        exact this
      refine els (fun K hK => iseq 1 K (by rw [decide_eq_false c1]; exact hK)) ?_
      by_cases c2 : w = 2 ∧ tag e = ("stop" : Str)
      · refine ifs_t W (fun K hK => two 2 K s_stop (by rw [decide_eq_true c2.1, decide_eq_true c2.2]; exact hK)) ?_
        have e2 : acc.map elD ++ [elD e, elD e] = (acc ++ [e, e]).map elD := by rw [List.map_append]; rfl
        refine ⟨lineN rfl, ?_⟩
        refine onV_c (vg _ _ _) ?_
        refine ⟨by rw [List.length_map]; exact Nat.le_of_lt (small_lt (by show acc.length + 2 < _; omega)), ?_⟩
        show K2 ⟨_, V (j + 1) jk acc ++ [Cell.lst (acc.map elD ++ [elD e, elD e])]⟩
        have := fin [e, e] (j + 1) (jk ++ [Cell.lst (acc.map elD)]) (some (.d (.int w))) z5 z6 (Nat.le_of_ble_eq_true rfl) (fun x hx => by
          simp only [List.mem_cons, List.not_mem_nil, or_false] at hx
          rcases hx with rfl | rfl <;> exact hin.w) (by omega)
        rw [← vapp, ← e2, List.length_append, List.length_singleton, ← vl (j + 1) jk acc] at this
        exact this
      refine els (fun K hK => two 2 K s_stop (by
        rw [show (decide (w = 2) && decide (tag e = ("stop" : Str))) = false by rw [← Bool.decide_and]; exact decide_eq_false c2]
        exact hK)) ?_
      by_cases c3 : w = 3 ∧ tag e = ("stop" : Str)
      · unfold dIfS dAnd
        refine iseq 3 _ ?_
        rw [decide_eq_true c3.1, if_pos rfl]
        refine istag _ _ s_stop ?_
        rw [decide_eq_true c3.2, if_pos rfl]
        refine draw2_ok (vk (j + 1) jk acc) (by decide) (by omega) fun b b0 b1 => ?_
        rw [vset]
        refine ⟨rfl, rfl, ?_⟩
        show if eqD (.int b) (.int 0) = true then _ else _
        rw [eqD_int]
        refine ifd (fun _ => ?_) fun _ => self (j + 2) z5 z6 (by omega)
        cases e with
        | stop lo hi =>
          have e2 : acc.map elD ++ [elD (El.stop lo none)] = (acc ++ [El.stop lo none]).map elD := by rw [List.map_append]; rfl
          refine append_st (k := st.length + jk.length) (xs := acc.map elD) (elD (El.stop lo none)) rfl (vg _ _ _) (fun C hC => ⟨lineN rfl, hC⟩) (small_lt (by rw [List.length_map]; exact hsm)) ?_
          show K2 ⟨_, (V (j + 2) jk acc).set (st.length + jk.length) (Cell.lst (acc.map elD ++ [elD (El.stop lo none)]))⟩
          rw [e2, vs]
          exact fin [El.stop lo none] (j + 2) jk _ _ _ (Nat.le_of_ble_eq_true rfl) (fun x hx => by rw [List.mem_singleton.mp hx]; exact ⟨hin.1, fun q h => nomatch h⟩) (by omega)
        | gap g => exact absurd c3.2 (of_decide_eq_false ne_gs)
        | lens p c => exact absurd c3.2 (of_decide_eq_false ne_ls)
        | prism p => exact absurd c3.2 (of_decide_eq_false ne_ps)
        | afocal p => exact absurd c3.2 (of_decide_eq_false ne_as)
      · refine els (fun K hK => ?_) (self (j + 1) z5 z6 (by omega))
        unfold dAnd
        refine iseq 3 _ ?_
        cases d3 : decide (w = 3) with
        | false =>
          rw [if_neg Bool.false_ne_true]
          exact hK
        | true =>
          rw [if_pos rfl]
          refine istag _ _ s_stop ?_
          rw [decide_eq_false fun z => c3 ⟨of_decide_eq_true d3, z⟩, if_neg Bool.false_ne_true]
          exact hK
    · rintro _ ⟨done, acc, j, jk, z3, z4, z5, z6, e1, hal, haw, hj, rfl⟩
      rw [List.append_nil] at e1
      exact hK _ ⟨acc, j, jk, z3, z4, z5, z6, by rw [e1]; exact hal, haw, by rw [e1]; exact hj, rfl⟩
  rintro _ ⟨acc, j, jk, z3, z4, z5, z6, hal, haw, hj, rfl⟩
  show if st.length + jk.length < st.length then _ else _
  rw [if_neg (by omega)]
  refine onC_mk (vg _ _ _) ?_
  show Q (.d (.lst (acc.map elD))) ((st.set k (Bx ds j) ++ (jk ++ [Cell.lst (acc.map elD)])).take st.length)
  rw [← hln (Bx ds j), List.take_left]
  exact h acc j hal haw hj
end
end B
end PG

set_option maxRecDepth 100000
set_option maxHeartbeats 4000000

namespace PG
namespace B
open PySem PySem.Spec PyProof.Rows L2 RT
theorem Tp.le {N n K k : Nat} {es : List El} (T : Tp N n es) (h : N ≤ K) (h' : n ≤ k) : Tp K k es := ⟨T.tz.le h, T.len, fun g hg => HZ.le (T.hz g hg) h', T.ln⟩
end B
end PG

set_option maxRecDepth 100000
set_option maxHeartbeats 4000000

namespace PG
namespace B
open PySem PySem.Spec PyProof.Rows L2 RT
def valV (hs : List Hp3) (p q part : Rat) : Option Rat := match supF p q hs with
  | none => greatest [some 1, (infF p q hs).map (· + part)]
  | some u => if u + part ≠ 0 then some (u + part) else match infF p q hs with
    | none => some (-1)
    | some l => if l + part ≠ 0 then some (l + part) else none
theorem valV_none {hs : List Hp3} {p q part : Rat} (hd : ∀ g ∈ hs, Dir g) {x0 : Ray} (hx : Rg hs x0) (h : valV hs p q part = none) : ∀ x, Rg hs x → lin2 p q x + part = 0 := by
  have hs' := sup_is (p := p) (q := q) hd hx
  have hi' := inf_is (p := p) (q := q) hd hx
  unfold valV at h
  cases es : supF p q hs with
  | none =>
    rw [es] at h
    exact absurd (greatest_none (show greatest _ = none from h) _ List.mem_cons_self) (by simp)
  | some u =>
    rw [es] at h hs'
    have h : (if u + part ≠ 0 then some (u + part) else match infF p q hs with
      | none => some (-1)
      | some l => if l + part ≠ 0 then some (l + part) else none) = none := h
    split at h
    · cases h
    · rename_i c
      have c : u + part = 0 := Classical.not_not.mp c
      cases ei : infF p q hs with
      | none => rw [ei] at h; exact nomatch (show some (-1 : Rat) = none from h)
      | some l =>
        rw [ei] at h hi'
        have h : (if l + part ≠ 0 then some (l + part) else none) = none := h
        split at h
        · cases h
        · rename_i c2
          have c2 : l + part = 0 := Classical.not_not.mp c2
          intro x hx
          have a := hs'.1 x hx
          have b := hi'.1 x hx
          grind

end B
end PG

set_option maxRecDepth 100000
set_option maxHeartbeats 4000000

namespace PG
namespace B
open PySem PySem.Spec PyProof.Rows L2 RT
structure Pd (M : Nat) (D : Int) (p q e : Rat) : Prop where
  dz : D ≠ 0
  db : D.natAbs.log2 + 2 ≤ M
  pi : ∃ P : Int, p * D = P ∧ P.natAbs.log2 + 2 ≤ M
  qi : ∃ P : Int, q * D = P ∧ P.natAbs.log2 + 2 ≤ M
  ei : ∃ P : Int, e * D = P ∧ P.natAbs.log2 + 2 ≤ M
structure Md (M : Nat) (m n : Mp) : Prop where
  one : ∃ D, Pd M D (m.a - n.a) (m.b - n.b) (m.e - n.e)
  two : ∃ D, Pd M D (m.c - n.c) (m.d - n.d) (m.f - n.f)
end B
end PG

set_option maxRecDepth 100000
set_option maxHeartbeats 4000000

namespace PG
namespace B
open PySem PySem.Spec PyProof.Rows L2 RT
section
variable {st : List Cell} {Q : Vl → List Cell → Prop}
end
end B
end PG

set_option maxRecDepth 100000
set_option maxHeartbeats 4000000

namespace PG
namespace B
open PySem PySem.Spec PyProof.Rows L2 RT
section
variable {st : List Cell} {Q : Vl → List Cell → Prop}
end
end B
end PG

set_option maxRecDepth 100000
set_option maxHeartbeats 4000000

namespace PG
open PySem PySem.Spec PyProof.Rows L2 RT
namespace S
section
variable {st : List Cell} {Q : Vl → List Cell → Prop}
end
end S
end PG

set_option maxRecDepth 100000
set_option maxHeartbeats 4000000

namespace PG
open PySem PySem.Spec PyProof.Rows L2 RT
namespace S
section
variable {st : List Cell} {Q : Vl → List Cell → Prop}
end
end S
end PG

set_option maxRecDepth 100000
set_option maxHeartbeats 4000000

namespace PG
open PySem PySem.Spec PyProof.Rows L2 RT
namespace S
section
variable {ds : List Int} {j k : Nat} {st : List Cell} {Q : Vl → List Cell → Prop}
end
end S
end PG

set_option maxRecDepth 100000
set_option maxHeartbeats 4000000

namespace PG
open PySem PySem.Spec PyProof.Rows L2 RT
namespace S
section
variable {st : List Cell} {os : RT.OS} {QO : Vl → List Cell → RT.OS → Prop} {Ex : EXS} {Q : Vl → List Cell → Prop}
theorem onVs_1 {m : M} {x : Dt} {P : List Dt → Prop} (h : P [x]) : onVs m [.d x] P := h
end
end S
end PG

set_option maxRecDepth 100000
set_option maxHeartbeats 4000000

namespace PG
open PySem PySem.Spec PyProof.Rows L2 RT S
namespace X
def RO (b : RT.OS) (k : Nat) (T : List (List Nat)) (p : Nat) : RT.OS := setO b k (.obj "Reader" [("tokens", .d (.lst (T.map wD))), ("place", .d (.int (p : Int)))])
theorem lk_set {k : Nat} {o : OCell} : ∀ b : RT.OS, (setO b k o).lookup k = some o
  | [] => List.lookup_cons_self
  | (j, x) :: r => by
    unfold setO
    by_cases h : j = k
    · rw [if_pos h]
      exact List.lookup_cons_self
    · rw [if_neg h]
      unfold List.lookup
      rw [show (k == j) = false from beq_eq_false_iff_ne.mpr (fun e => h e.symm)]
      exact lk_set r
theorem set_set {k : Nat} {o o' : OCell} : ∀ b : RT.OS, setO (setO b k o) k o' = setO b k o'
  | [] => by simp [setO]
  | (j, x) :: r => by
    by_cases h : j = k
    · simp [setO, h]
    · simp [setO, h, set_set r]
theorem lk_k {b : RT.OS} {k : Nat} {T : List (List Nat)} {p : Nat} : (RO b k T p).lookup k = some (.obj "Reader" [("tokens", .d (.lst (T.map wD))), ("place", .d (.int (p : Int)))]) := by
  exact lk_set b
theorem lk_t {a b : Vl} : ([(("tokens" : Str), a), (("place" : Str), b)] : List (Str × Vl)).lookup ("tokens" : Str) = some a := List.lookup_cons_self
theorem lk_p {a b : Vl} : ([(("tokens" : Str), a), (("place" : Str), b)] : List (Str × Vl)).lookup ("place" : Str) = some b := by
  unfold List.lookup
  rw [show (("place" : Str) == ("tokens" : Str)) = false by decide +kernel]
  exact List.lookup_cons_self
theorem set_k {b : RT.OS} {k : Nat} {T : List (List Nat)} {p q : Nat} : setO (RO b k T p) k (.obj "Reader" (putV ("place" : Str) (.d (.int (q : Int))) [(("tokens" : Str), .d (.lst (T.map wD))), (("place" : Str), .d (.int (p : Int)))])) = RO b k T q := by
  unfold RO
  rw [set_set]
  unfold putV
  rw [if_neg (by decide +kernel)]
  unfold putV
  rw [if_pos rfl]
section
variable {b : RT.OS} {st : List Cell} {k : Nat} {T : List (List Nat)} {p : Nat} {QO : Vl → List Cell → RT.OS → Prop} {Ex : EXS}
theorem f_t {i : Nat} {m : M} {Q : Vl → M → Prop} (h0 : m.sl[i]? = some (some (.c k))) (h : Q (.d (.lst (T.map wD))) m) : dFld (RO b k T p) "Reader" "tokens" (dVar i) m Q := by
  unfold dFld dVar
  rw [h0]
  exact ⟨_, _, lk_k, lk_t, h⟩
theorem f_p {i : Nat} {m : M} {Q : Vl → M → Prop} (h0 : m.sl[i]? = some (some (.c k))) (h : Q (.d (.int (p : Int))) m) : dFld (RO b k T p) "Reader" "place" (dVar i) m Q := by
  unfold dFld dVar
  rw [h0]
  exact ⟨_, _, lk_k, lk_p, h⟩
theorem aug_p {E : DOEnds} {Ex : EXO} {m : M} (h0 : m.sl[0]? = some (some (.c k))) (h : E.nx m (RO b k T (p + 1))) : xFldAug 0 "Reader" "place" (· + 1) Ex E m (RO b k T p) := by
  refine ⟨k, _, (p : Int), h0, lk_k, lk_p, (by show 2 < 900; decide), ?_⟩
  have := @set_k b k T p (p + 1)
  rw [Int.natCast_add] at this
  show E.nx m (setO (RO b k T p) k (.obj "Reader" (putV ("place" : Str) (.d (.int ((p : Int) + 1))) _)))
  rw [show ((p : Int) + 1) = (p : Int) + ((1 : Nat) : Int) from rfl, this]
  exact h
theorem token_ok (hp : p ≤ T.length) (h1 : ∀ w, T[p]? = some w → QO (.d (wD w)) st (RO b k T (p + 1))) (h2 : T[p]? = none → Ex "EndError" .non st (RO b k T p)) : sp_Reader_token [.c k] st (RO b k T p) QO Ex := by
  unfold sp_Reader_token
  refine ⟨rfl, ?_⟩
  have cnd : ∀ K : Bool → M → Prop, K (decide (p = T.length)) ⟨[some (.c k)], st⟩ → dTest (dOp RT.rEq (dFld (RO b k T p) "Reader" "place" (dVar 0)) (dBi bLen (dCons (dFld (RO b k T p) "Reader" "tokens" (dVar 0)) dNil))) ⟨[some (.c k)], st⟩ K := fun K hK => by
    unfold dTest dOp
    dsimp only
    refine f_p rfl ?_
    dsimp only [dBi, dCons, dNil]
    refine f_t rfl ?_
    refine ⟨sh_ok (n := 1) sh_int, sh_ok (n := 1) sh_int, ?_⟩
    show K (eqD (.int (p : Int)) (.int ((T.map wD).length : Int))) _
    rw [eqD_int, List.length_map]
    rw [show decide ((p : Int) = (T.length : Int)) = decide (p = T.length) from decide_eq_decide.mpr (by omega)]
    exact hK
  by_cases e : p = T.length
  · refine xthen (m' := ⟨[some (.c k)], st⟩) (fun K hK => cnd K (by rw [decide_eq_true e]; exact hK)) ?_
    exact h2 (by rw [e]; exact List.getElem?_eq_none (Nat.le_refl _))
  · refine xguard (m' := ⟨[some (.c k)], st⟩) (fun K hK => cnd K (by rw [decide_eq_false e]; exact hK)) ?_
    refine aug_p rfl ?_
    have hlt : p < T.length := by omega
    dsimp only [xS, dRet, dOp]
    refine f_t rfl ?_
    refine f_p rfl ?_
    show True ∧ onO (atI (T.map wD) ((((p + 1 : Nat) : Int)) - 1)) (fun z => QO (.d z) st (RO b k T (p + 1)))
    refine ⟨trivial, ?_⟩
    rw [show (((p + 1 : Nat) : Int)) - 1 = (p : Int) by omega, atI_map (f := wD) (List.getElem?_eq_getElem hlt)]
    exact h1 _ (List.getElem?_eq_getElem hlt)
theorem number_ok (hp : p ≤ T.length) (hT : ∀ w ∈ T, Asc w ∧ w.length ≤ 100000) (hl : T.length ≤ 1000000) (h1 : ∀ w x, T[p]? = some w → fracF w = some x → QO (.d (fr x)) st (RO b k T (p + 1)))
    (h2 : T[p]? = none → Ex "EndError" .non st (RO b k T p)) (h3 : ∀ w, T[p]? = some w → fracF w = none → Ex "TokenError" (.int ((p + 1 : Nat) : Int)) st (RO b k T (p + 1))) : sp_Reader_number [.c k] st (RO b k T p) QO Ex := by
  unfold sp_Reader_number
  refine ⟨rfl, ?_⟩
  refine ⟨⟨_, lk_k, by
    unfold List.lookup
    rw [show (("token" : Str) == ("tokens" : Str)) = false by decide +kernel]
    unfold List.lookup
    rw [show (("token" : Str) == ("place" : Str)) = false by decide +kernel]
    rfl⟩, ?_⟩
  refine token_ok hp (fun w hw => ?_) (fun hn => h2 hn)
  have hm := List.mem_of_getElem? hw
  show sp_fraction_of [.d (wD w)] st _
  refine fraction_of_ok (hT w hm).2 (hT w hm).1 ?_
  cases hf : fracF w with
  | none =>
    dsimp only
    refine xthen (m' := ⟨[some (.c k), some (.d .non)], st⟩) (fun K hK => hK) ?_
    dsimp only [xRaise, xE]
    refine f_p rfl ?_
    refine ⟨?_, h3 w hw hf⟩
    have := log_le (z := ((p + 1 : Nat) : Int)) (n := 2000000) (b := 20) (by omega) (by decide +kernel)
    omega
  | some x =>
    dsimp only
    refine xguard (m' := ⟨[some (.c k), some (.d (fr x))], st⟩) (fun K hK => hK) ?_
    exact h1 w x hw hf
end
end X
end PG

set_option maxRecDepth 100000
set_option maxHeartbeats 4000000

namespace PG
open PySem PySem.Spec PyProof.Rows L2 RT S
namespace X
theorem sh_wS {w : List Nat} {n : Nat} (h : Asc w) : Sh n (wD w) := sh_str (by
  show PySem.PyData.strOk (Sx w) = true
  unfold PySem.PyData.strOk
  rw [← Array.all_toList, List.all_eq_true]
  intro c hc
  exact decide_eq_true (Nat.lt_trans (h c hc) (by decide)))
theorem sh_ws {l : List (List Nat)} (h : ∀ w ∈ l, Asc w) : shD (.lst (l.map wD)) := sh_ok (n := 1) (sh_lst (n := 0) fun d hd => by
  obtain ⟨w, hw, rfl⟩ := List.mem_map.mp hd
  exact sh_wS (h w hw))
theorem cut1 {T : List (List Nat)} {p : Nat} : RT.cutD (T.map wD) (some (p : Int)) (some ((p : Int) + 1)) = ((T.drop p).take 1).map wD := by
  unfold RT.cutD
  rw [show ((p : Int) + 1) = ((p + 1 : Nat) : Int) from rfl, HT.sIx_nat, HT.sIx_nat, List.length_map, ← List.map_drop, ← List.map_take]
  by_cases h : p < T.length
  · rw [Nat.min_eq_left (by omega), Nat.min_eq_left (by omega), Nat.add_sub_cancel_left]
  · rw [Nat.min_eq_right (by omega), Nat.min_eq_right (by omega), List.drop_of_length_le (Nat.le_refl _), List.drop_of_length_le (by omega), List.take_nil, List.take_nil]
theorem eq_nx {T : List (List Nat)} {p : Nat} {w : List Nat} : eqD (.lst (((T.drop p).take 1).map wD)) (.lst [wD w]) = decide (T[p]? = some w) := by
  cases h : T[p]? with
  | none =>
    rw [List.drop_of_length_le (by simpa using h)]
    rfl
  | some v =>
    have hlt : p < T.length := (List.getElem?_eq_some_iff.mp h).1
    rw [List.drop_eq_getElem_cons hlt, List.take_succ_cons, List.take_zero]
    have e : T[p] = v := (List.getElem?_eq_some_iff.mp h).2
    rw [e]
    show (eqD (wD v) (wD w) && true) = _
    rw [Bool.and_true]
    unfold wD
    rw [eqX]
    exact decide_eq_decide.mpr (by simp)
def pNx (T : List (List Nat)) (p : Nat) (w : List Nat) : Nat := if T[p]? = some w then p + 1 else p
section
variable {b : RT.OS} {st : List Cell} {k : Nat} {T : List (List Nat)} {p : Nat} {QO : Vl → List Cell → RT.OS → Prop} {Ex : EXS}
theorem is_next_ok {w : List Nat} (hT : ∀ w ∈ T, Asc w) (hw : Asc w) (h : QO (.d (.bl (decide (T[p]? = some w)))) st (RO b k T (pNx T p w))) : sp_Reader_is_next [.c k, .d (wD w)] st (RO b k T p) QO Ex := by
  unfold sp_Reader_is_next
  refine ⟨rfl, ?_⟩
  have cnd : ∀ K : Bool → M → Prop, K (decide (T[p]? = some w)) ⟨[some (.c k), some (.d (wD w))], st⟩ → dTest (dOp RT.rEq (dSl false (dFld (RO b k T p) "Reader" "tokens" (dVar 0)) (dPart (dFld (RO b k T p) "Reader" "place" (dVar 0))) (dPart (dOp rAddA (dFld (RO b k T p) "Reader" "place" (dVar 0)) (dC (.int 1))))) (dLst (dCons (dVar 1) dNil))) ⟨[some (.c k), some (.d (wD w))], st⟩ K := fun K hK => by
    unfold dTest dOp dSl dPart
    dsimp only
    refine f_t rfl ?_
    refine f_p rfl ?_
    refine f_p rfl ?_
    show 1 ≤ sizeLine ∧ shD (.lst (RT.cutD (T.map wD) (some (p : Int)) (some ((p : Int) + 1)))) ∧ shD (.lst [wD w]) ∧ K (eqD (.lst (RT.cutD (T.map wD) (some (p : Int)) (some ((p : Int) + 1)))) (.lst [wD w])) _
    rw [cut1, eq_nx]
    exact ⟨Nat.le_of_lt (small_lt (by omega)), sh_ws fun x hx => hT x (List.mem_of_mem_drop (List.mem_of_mem_take hx)), sh_ws (l := [w]) fun x hx => by rw [List.mem_singleton.mp hx]; exact hw, hK⟩
  unfold pNx at h
  by_cases e : T[p]? = some w
  · rw [decide_eq_true e, if_pos e] at h
    refine xthen (m' := ⟨[some (.c k), some (.d (wD w))], st⟩) (fun K hK => cnd K (by rw [decide_eq_true e]; exact hK)) ?_
    refine aug_p rfl ?_
    exact h
  · rw [decide_eq_false e, if_neg e] at h
    refine xguard (m' := ⟨[some (.c k), some (.d (wD w))], st⟩) (fun K hK => cnd K (by rw [decide_eq_false e]; exact hK)) ?_
    exact h
end
end X
end PG

set_option maxRecDepth 100000
set_option maxHeartbeats 4000000

namespace PG
open PySem PySem.Spec PyProof.Rows L2 RT S
namespace X
inductive Perr where
  | endE
  | tok (p : Nat)
  deriving DecidableEq
def Perr.nm : Perr → Str
  | .endE => "EndError"
  | .tok _ => "TokenError"
def Perr.dt : Perr → Dt
  | .endE => .non
  | .tok p => .int (p : Int)
def pNum (T : List (List Nat)) (p : Nat) : Except Perr (Rat × Nat) := match T[p]? with
  | none => .error .endE
  | some w => match fracF w with
    | none => .error (.tok (p + 1))
    | some x => .ok (x, p + 1)
def pOpt (T : List (List Nat)) (p : Nat) (w : List Nat) : Except Perr (Option Rat × Nat) := if T[p]? = some w then (match pNum T (p + 1) with
  | .ok (x, q) => .ok (some x, q)
  | .error e => .error e) else .ok (none, p)
def wFrom : List Nat := [102, 114, 111, 109]
def wTo : List Nat := [116, 111]
def wAt : List Nat := [97, 116]
def wStop : List Nat := [115, 116, 111, 112]
theorem sx_from : (.str ("from" : Str) : Dt) = wD wFrom := by
  unfold wD
  rw [show ("from" : Str) = Sx wFrom by decide +kernel]
theorem sx_to : (.str ("to" : Str) : Dt) = wD wTo := by
  unfold wD
  rw [show ("to" : Str) = Sx wTo by decide +kernel]
theorem sx_at : (.str ("at" : Str) : Dt) = wD wAt := by
  unfold wD
  rw [show ("at" : Str) = Sx wAt by decide +kernel]
theorem pNum_le {T : List (List Nat)} {p q : Nat} {x : Rat} (h : pNum T p = .ok (x, q)) : q ≤ T.length ∧ p < q := by
  unfold pNum at h
  split at h
  · cases h
  · rename_i w hw
    have := (List.getElem?_eq_some_iff.mp hw).1
    split at h
    · cases h
    · cases h
      exact ⟨this, Nat.lt_succ_self _⟩
theorem pOpt_le {T : List (List Nat)} {p q : Nat} {w : List Nat} {x : Option Rat} (hp : p ≤ T.length) (h : pOpt T p w = .ok (x, q)) : q ≤ T.length ∧ p ≤ q := by
  unfold pOpt at h
  split at h
  · split at h
    · rename_i hn
      cases h
      have := pNum_le hn
      omega
    · cases h
  · cases h
    exact ⟨hp, Nat.le_refl _⟩
def TOK (T : List (List Nat)) : Prop := (∀ w ∈ T, Asc w ∧ w.length ≤ 100000) ∧ T.length ≤ 1000000
section
variable {b : RT.OS} {st : List Cell} {k : Nat} {T : List (List Nat)} {p : Nat} {QO : Vl → List Cell → RT.OS → Prop} {Ex : EXS}
theorem number_pure (hT : TOK T) (hp : p ≤ T.length) (h1 : ∀ x q, pNum T p = .ok (x, q) → QO (.d (fr x)) st (RO b k T q)) (h2 : ∀ e, pNum T p = .error e → ∀ q, Ex e.nm e.dt st (RO b k T q)) : sp_Reader_number [.c k] st (RO b k T p) QO Ex := by
  refine number_ok hp hT.1 hT.2 (fun w x hw hx => h1 x _ ?_) (fun hn => h2 .endE ?_ _) (fun w hw hx => h2 (.tok (p + 1)) ?_ _)
  · unfold pNum
    rw [hw]
    dsimp only
    rw [hx]
  · unfold pNum
    rw [hn]
  · unfold pNum
    rw [hw]
    dsimp only
    rw [hx]
theorem mth_k {m : Str} (h1 : (m == ("tokens" : Str)) = false) (h2 : (m == ("place" : Str)) = false) : ∃ fs, (RO b k T p).lookup k = some (.obj "Reader" fs) ∧ fs.lookup m = none := ⟨_, lk_k, by
  unfold List.lookup
  rw [h1]
  unfold List.lookup
  rw [h2]
  rfl⟩
def putM (i : Nat) (x : Option Rat) (m : M) : M := match x with
  | some x => ⟨m.sl.set i (some (.d (fr x))), m.st⟩
  | none => m
theorem opt_step {i : Nat} {d : Dt} {w : List Nat} {rest : DSO} {Ex : EXO} {E : DOEnds} {m : M} (hd : d = wD w) (h0 : m.sl[0]? = some (some (.c k))) (hT : TOK T) (hp : p ≤ T.length) (hw : Asc w)
    (hok : ∀ x q, pOpt T p w = .ok (x, q) → rest Ex E (putM i x m) (RO b k T q)) (herr : ∀ e, pOpt T p w = .error e → ∀ q, Ex e.nm e.dt m (RO b k T q)) :
    xSeq (xIf (xTru (xMeth "Reader" "is_next" PG.sp_Reader_is_next (xE fun _ => (dVar 0)) (xA fun _ => (dCons (dC d) dNil))))
      (xSet i (xMeth "Reader" "number" PG.sp_Reader_number (xE fun _ => (dVar 0)) xNil)) xNext) rest Ex E m (RO b k T p) := by
  obtain ⟨sl, st⟩ := m
  subst hd
  unfold xSeq xIf xTru xMeth xE dVar
  dsimp only at h0 ⊢
  rw [h0]
  refine ⟨mth_k (by decide +kernel) (by decide +kernel), ?_⟩
  refine is_next_ok (fun x hx => (hT.1 x hx).1) hw ?_
  by_cases e : T[p]? = some w
  · have hlt := (List.getElem?_eq_some_iff.mp e).1
    have hn : pNx T p w = p + 1 := if_pos e
    have ho : pOpt T p w = match pNum T (p + 1) with
      | .ok (x, q) => .ok (some x, q)
      | .error e => .error e := if_pos e
    rw [decide_eq_true e, hn]
    dsimp only
    rw [if_pos rfl]
    unfold xSet
    dsimp only
    rw [h0]
    refine ⟨mth_k (by decide +kernel) (by decide +kernel), ?_⟩
    refine number_pure hT (by omega) (fun x q hx => ?_) (fun er hx q => ?_)
    · rw [hx] at ho
      exact hok _ _ ho
    · rw [hx] at ho
      exact herr _ ho q
  · have hn : pNx T p w = p := if_neg e
    have ho : pOpt T p w = .ok (none, p) := if_neg e
    rw [decide_eq_false e, hn]
    dsimp only
    rw [if_neg (by decide)]
    exact hok _ _ ho
def pStop (T : List (List Nat)) (p : Nat) : Except Perr (El × Nat) := match pOpt T p wFrom with
  | .error e => .error e
  | .ok (a, p1) => match pOpt T p1 wTo with
    | .error e => .error e
    | .ok (b, p2) => .ok (.stop a b, p2)
theorem stop_ok (hT : TOK T) (hp : p ≤ T.length) (h1 : ∀ x q, pStop T p = .ok (x, q) → QO (.d (elD x)) st (RO b k T q)) (h2 : ∀ e, pStop T p = .error e → ∀ q, Ex e.nm e.dt st (RO b k T q)) : sp_Reader_stop [.c k] st (RO b k T p) QO Ex := by
  unfold sp_Reader_stop
  refine ⟨rfl, ?_⟩
  refine xseq_to ⟨[some (.c k), some (.d .non), none], st⟩ (fun K hK => hK) ?_
  refine xseq_to ⟨[some (.c k), some (.d .non), some (.d .non)], st⟩ (fun K hK => hK) ?_
  refine opt_step sx_from rfl hT hp (by unfold Asc; decide) (fun a p1 ha => ?_) (fun e he q => h2 e ?_ q)
  · have l1 := pOpt_le hp ha
    refine opt_step sx_to (by cases a <;> rfl) hT l1.1 (by unfold Asc; decide) (fun b p2 hb => ?_) (fun e he q => ?_)
    · have hs : pStop T p = .ok (.stop a b, p2) := by
        unfold pStop
        rw [ha]
        dsimp only
        rw [hb]
      have := h1 _ _ hs
      cases a <;> cases b <;> exact ⟨lineN rfl, this⟩
    · have hs : pStop T p = .error e := by
        unfold pStop
        rw [ha]
        dsimp only
        rw [he]
      have := h2 _ hs q
      cases a <;> exact this
  · unfold pStop
    rw [he]
end
end X
end PG

set_option maxRecDepth 100000
set_option maxHeartbeats 4000000

namespace PG
open PySem PySem.Spec PyProof.Rows L2 RT S
namespace X
def wGap : List Nat := [103, 97, 112]
def wLens : List Nat := [108, 101, 110, 115]
def wPrism : List Nat := [112, 114, 105, 115, 109]
def wAfocal : List Nat := [97, 102, 111, 99, 97, 108]
def wordsL : List (List Nat) := [wGap, wLens, wPrism, wAfocal, wStop]
theorem words_D : v_WORDS = .tup (wordsL.map wD) := by
  unfold v_WORDS wordsL wD
  rw [show ("gap" : Str) = Sx wGap by decide +kernel, show ("lens" : Str) = Sx wLens by decide +kernel, show ("prism" : Str) = Sx wPrism by decide +kernel, show ("afocal" : Str) = Sx wAfocal by decide +kernel, show ("stop" : Str) = Sx wStop by decide +kernel]
  rfl
theorem sx_stop : (.str ("stop" : Str) : Dt) = wD wStop := by
  unfold wD
  rw [show ("stop" : Str) = Sx wStop by decide +kernel]
theorem sx_lens : (.str ("lens" : Str) : Dt) = wD wLens := by
  unfold wD
  rw [show ("lens" : Str) = Sx wLens by decide +kernel]
theorem words_asc : ∀ w ∈ wordsL, Asc w := by
  unfold Asc
  decide
theorem any_w {w : List Nat} (l : List (List Nat)) : ((l.map wD).any fun z => eqD z (wD w)) = decide (w ∈ l) := by
  induction l with
  | nil => rfl
  | cons a l ih =>
    rw [List.map_cons, List.any_cons, ih]
    have : eqD (wD a) (wD w) = decide (a = w) := by
      unfold wD
      exact eqX
    rw [this, ← Bool.decide_or]
    exact decide_eq_decide.mpr (by
      rw [List.mem_cons]
      exact ⟨fun h => h.elim (fun h => .inl h.symm) .inr, fun h => h.elim (fun h => .inl h.symm) .inr⟩)
def elW (w : List Nat) (x : Rat) : El := if w = wGap then .gap x else if w = wPrism then .prism x else .afocal x
def pElem (T : List (List Nat)) (p : Nat) : Except Perr (El × Nat) := match T[p]? with
  | none => .error .endE
  | some w => if w ∈ wordsL then (if w = wStop then pStop T (p + 1) else match pNum T (p + 1) with
    | .error e => .error e
    | .ok (x, p2) => if w = wLens then (match pOpt T p2 wAt with
      | .error e => .error e
      | .ok (c, p3) => .ok (.lens x (c.getD 0), p3)) else .ok (elW w x, p2)) else .error (.tok (p + 1))
section
variable {b : RT.OS} {st : List Cell} {k : Nat} {T : List (List Nat)} {p : Nat} {QO : Vl → List Cell → RT.OS → Prop} {Ex : EXS}
theorem w_tup {w : List Nat} {x : Rat} (hw : w ∈ wordsL) (h1 : w ≠ wStop) (h2 : w ≠ wLens) : (.tup [wD w, fr x] : Dt) = elD (elW w x) := by
  unfold wordsL at hw
  have c : w = wGap ∨ w = wPrism ∨ w = wAfocal := by
    simp only [List.mem_cons, List.not_mem_nil, or_false] at hw
    rcases hw with h | h | h | h | h
    · exact .inl h
    · exact absurd h h2
    · exact .inr (.inl h)
    · exact .inr (.inr h)
    · exact absurd h h1
  rcases c with h | h | h
  · subst h
    show _ = Dt.tup [.str ("gap" : Str), fr x]
    unfold wD
    rw [show ("gap" : Str) = Sx wGap by decide +kernel]
  · subst h
    show _ = Dt.tup [.str ("prism" : Str), fr x]
    unfold wD
    rw [show ("prism" : Str) = Sx wPrism by decide +kernel]
  · subst h
    show _ = Dt.tup [.str ("afocal" : Str), fr x]
    unfold wD
    rw [show ("afocal" : Str) = Sx wAfocal by decide +kernel]
theorem element_ok (hT : TOK T) (hp : p ≤ T.length) (h1 : ∀ x q, pElem T p = .ok (x, q) → QO (.d (elD x)) st (RO b k T q)) (h2 : ∀ e, pElem T p = .error e → ∀ q, Ex e.nm e.dt st (RO b k T q)) : sp_Reader_element [.c k] st (RO b k T p) QO Ex := by
  unfold sp_Reader_element
  refine ⟨rfl, ?_⟩
  refine ⟨mth_k (by decide +kernel) (by decide +kernel), ?_⟩
  refine token_ok hp (fun w hw => ?_) (fun hn => h2 .endE (by unfold pElem; rw [hn]) _)
  have hlt := (List.getElem?_eq_some_iff.mp hw).1
  have hwT := List.mem_of_getElem? hw
  have haw := (hT.1 w hwT).1
  have he : pElem T p = if w ∈ wordsL then (if w = wStop then pStop T (p + 1) else match pNum T (p + 1) with
    | .error e => .error e
    | .ok (x, p2) => if w = wLens then (match pOpt T p2 wAt with
      | .error e => .error e
      | .ok (c, p3) => .ok (.lens x (c.getD 0), p3)) else .ok (elW w x, p2)) else .error (.tok (p + 1)) := by
    conv => lhs; unfold pElem
    rw [hw]
  let M0 : M := ⟨[some (.c k), some (.d (wD w)), none, none], st⟩
  have c1 : ∀ K : Bool → M → Prop, K (!decide (w ∈ wordsL)) M0 → dTest (dOp rNotInT (dVar 1) (dC PG.v_WORDS)) M0 K := fun K hK => by
    rw [words_D]
    refine ⟨sh_w haw, sh_ok (n := 1) (sh_tup (n := 0) fun d hd => ?_), ?_⟩
    · obtain ⟨v, hv, rfl⟩ := List.mem_map.mp hd
      exact sh_wS (words_asc v hv)
    show K (!((wordsL.map wD).any fun z => eqD z (wD w))) M0
    rw [any_w]
    exact hK
  dsimp only
  by_cases hwl : w ∈ wordsL
  · rw [if_pos hwl] at he
    refine xguard (m' := M0) (fun K hK => c1 K (by rw [decide_eq_true hwl]; exact hK)) ?_
    have c2 : ∀ K : Bool → M → Prop, K (decide (w = wStop)) M0 → dTest (dOp RT.rEq (dVar 1) (dC (.str ("stop" : Str)))) M0 K := fun K hK => by
      rw [sx_stop]
      refine ⟨sh_w haw, sh_w (words_asc _ (by decide)), ?_⟩
      show K (eqD (wD w) (wD wStop)) M0
      unfold wD
      rw [eqX]
      exact hK
    by_cases hws : w = wStop
    · rw [if_pos hws] at he
      refine xthen (m' := M0) (fun K hK => c2 K (by rw [decide_eq_true hws]; exact hK)) ?_
      refine ⟨mth_k (by decide +kernel) (by decide +kernel), ?_⟩
      exact stop_ok hT hlt (fun x q hx => h1 x q (by rw [he]; exact hx)) (fun e hx q => h2 e (by rw [he]; exact hx) q)
    · rw [if_neg hws] at he
      refine xguard (m' := M0) (fun K hK => c2 K (by rw [decide_eq_false hws]; exact hK)) ?_
      refine ⟨mth_k (by decide +kernel) (by decide +kernel), ?_⟩
      refine number_pure hT hlt (fun x p2 hx => ?_) (fun e hx q => h2 e (by rw [he, hx]) q)
      rw [hx] at he
      dsimp only at he
      let M1 : M := ⟨[some (.c k), some (.d (wD w)), some (.d (fr x)), none], st⟩
      have c3 : ∀ K : Bool → M → Prop, K (!decide (w = wLens)) M1 → dTest (dOp rNe (dVar 1) (dC (.str ("lens" : Str)))) M1 K := fun K hK => by
        rw [sx_lens]
        refine ⟨sh_w haw, sh_w (words_asc _ (by decide)), ?_⟩
        show K (!eqD (wD w) (wD wLens)) M1
        unfold wD
        rw [eqX]
        exact hK
      dsimp only
      by_cases hwn : w = wLens
      · rw [if_pos hwn] at he
        refine xguardS (m' := M1) (fun K hK => c3 K (by rw [decide_eq_true hwn]; exact hK)) ?_
        let M2 : M := ⟨[some (.c k), some (.d (wD w)), some (.d (fr x)), some (.d (fr 0))], st⟩
        refine xseq_to M2 (fun K hK => hK) ?_
        refine opt_step sx_at rfl hT (pNum_le hx).1 (by unfold Asc; decide) (fun c p3 hc => ?_) (fun e hc q => h2 e (by rw [he, hc]) q)
        have := h1 _ _ (by rw [he, hc])
        have e1 : (Dt.tup [wD w, fr x, fr (c.getD 0)]) = elD (.lens x (c.getD 0)) := by
          rw [hwn, ← sx_lens]
          rfl
        rw [← e1] at this
        cases c <;> exact ⟨lineN rfl, this⟩
      · rw [if_neg hwn] at he
        refine xthenS (m' := M1) (fun K hK => c3 K (by rw [decide_eq_false hwn]; exact hK)) ?_
        have := h1 _ _ he
        rw [← w_tup hwl hws hwn] at this
        exact ⟨lineN rfl, this⟩
  · rw [if_neg hwl] at he
    refine xthen (m' := M0) (fun K hK => c1 K (by rw [decide_eq_false hwl]; exact hK)) ?_
    dsimp only [xRaise, xE]
    refine f_p rfl ?_
    refine ⟨?_, h2 _ he _⟩
    have := log_le (z := ((p + 1 : Nat) : Int)) (n := 2000000) (b := 20) (by have := hT.2; omega) (by decide +kernel)
    omega
end
end X
end PG

set_option maxRecDepth 100000
set_option maxHeartbeats 4000000

namespace PG
open PySem PySem.Spec PyProof.Rows L2 RT S
namespace X
def pRest (T : List (List Nat)) : Nat → List El → Nat → Except Perr (List El)
  | 0, acc, _ => .ok acc
  | n + 1, acc, p => if p < T.length then (if T[p]? = some [59] then (match pElem T (p + 1) with
    | .error e => .error e
    | .ok (x, q) => pRest T n (acc ++ [x]) q) else .error (.tok (p + 1))) else .ok acc
def pTrain (T : List (List Nat)) : Except Perr (List El) := if T = [] then .ok [] else match pElem T 0 with
  | .error e => .error e
  | .ok (x, p) => pRest T (T.length + 1) [x] p
theorem pStop_le {T : List (List Nat)} {p q : Nat} {x : El} (hp : p ≤ T.length) (h : pStop T p = .ok (x, q)) : q ≤ T.length ∧ p ≤ q := by
  unfold pStop at h
  split at h
  · cases h
  · rename_i a p1 h1
    split at h
    · cases h
    · rename_i b p2 h2
      cases h
      have l1 := pOpt_le hp h1
      have l2 := pOpt_le l1.1 h2
      omega
theorem pElem_le {T : List (List Nat)} {p q : Nat} {x : El} (h : pElem T p = .ok (x, q)) : q ≤ T.length ∧ p < q := by
  unfold pElem at h
  split at h
  · cases h
  · rename_i w hw
    have hlt := (List.getElem?_eq_some_iff.mp hw).1
    split at h
    · split at h
      · have := pStop_le (by omega) h
        omega
      · split at h
        · cases h
        · rename_i y p2 hn
          have l1 := pNum_le hn
          split at h
          · split at h
            · cases h
            · rename_i c p3 hc
              cases h
              have := pOpt_le l1.1 hc
              omega
          · cases h
            omega
    · cases h
theorem xguardF {os : RT.OS} {ct : RT.OS → DT} {a : RT.OS → DS} {rest : DSO} {Ex : EXO} {E : DOEnds} {m : M} (m' : M) (hc : ∀ K : Bool → M → Prop, K false m' → ct os m K) (h : rest Ex E m' os) : xSeq (xS fun os => dIfS (ct os) (a os) dNext) rest Ex E m os := hc _ (by
  dsimp only
  rw [if_neg Bool.false_ne_true]
  exact h)
theorem xthenF {os : RT.OS} {ct : RT.OS → DT} {a : RT.OS → DS} {rest : DSO} {Ex : EXO} {E : DOEnds} {m : M} (m' : M) (hc : ∀ K : Bool → M → Prop, K true m' → ct os m K) (h : a os ⟨fun m1 => rest Ex E m1 os, fun v m1 => E.rt v m1 os, fun m1 => E.bk m1 os, fun m1 => E.ct m1 os⟩ m') : xSeq (xS fun os => dIfS (ct os) (a os) dNext) rest Ex E m os := hc _ (by
  dsimp only
  rw [if_pos rfl]
  exact h)
theorem sx_semi : (.str (";" : Str) : Dt) = wD [59] := by
  unfold wD
  rw [sx_sc]
section
variable {b : RT.OS} {st : List Cell} {k : Nat} {T : List (List Nat)} {p : Nat} {QO : Vl → List Cell → RT.OS → Prop} {Ex : EXS}
theorem train_ok (hT : TOK T) (h0 : T = [] → QO (.d (.lst [])) st (RO b k T 0)) (h1 : T ≠ [] → ∀ es q, pTrain T = .ok es → QO (.c st.length) (st ++ [.lst (es.map elD)]) (RO b k T q))
    (h2 : ∀ e, pTrain T = .error e → ∀ ys q, Ex e.nm e.dt (st ++ ys) (RO b k T q)) : sp_Reader_train [.c k] st (RO b k T 0) QO Ex := by
  unfold sp_Reader_train
  refine ⟨rfl, ?_⟩
  have cnd : ∀ K : Bool → M → Prop, K (decide (T = [])) ⟨[some (.c k), none], st⟩ → dNot (dTru (dFld (RO b k T 0) "Reader" "tokens" (dVar 0))) ⟨[some (.c k), none], st⟩ K := fun K hK => by
    unfold dNot dTru
    dsimp only
    refine f_t rfl ?_
    show K (!(!(T.map wD).isEmpty)) _
    rw [Bool.not_not]
    have : (T.map wD).isEmpty = decide (T = []) := by cases T <;> rfl
    rw [this]
    exact hK
  by_cases e : T = []
  · refine xthenF (m' := ⟨[some (.c k), none], st⟩) (fun K hK => cnd K (by rw [decide_eq_true e]; exact hK)) ?_
    have := h0 e
    refine ⟨Nat.zero_le _, this⟩
  · refine xguardF (m' := ⟨[some (.c k), none], st⟩) (fun K hK => cnd K (by rw [decide_eq_false e]; exact hK)) ?_
    have hpos : 0 < T.length := List.length_pos_iff.mpr e
    refine ⟨mth_k (by decide +kernel) (by decide +kernel), ?_⟩
    have hp0 : pTrain T = match pElem T 0 with
      | .error e => .error e
      | .ok (x, p) => pRest T (T.length + 1) [x] p := if_neg e
    refine element_ok hT (Nat.zero_le _) (fun x p hx => ?_) (fun er hx q => by
      have := h2 er (by rw [hp0, hx]) [] q
      rw [List.append_nil] at this
      exact this)
    rw [hx] at hp0
    dsimp only at hp0
    have lx := pElem_le hx
    refine ⟨lineN rfl, ?_⟩
    obtain ⟨res, eres⟩ : ∃ r, pTrain T = r := ⟨_, rfl⟩
    rw [eres] at hp0
    let Y : List El → M := fun acc => ⟨[some (.c k), some (.c st.length)], st ++ [Cell.lst (acc.map elD)]⟩
    show xSeq (xWhile _ _) _ _ _ (Y [x]) (RO b k T p)
    refine ⟨fun n m os => ∃ acc p, pRest T n acc p = res ∧ T.length < p + n ∧ p ≤ T.length ∧ acc.length ≤ p ∧ m = Y acc ∧ os = RO b k T p, ⟨T.length + 1, [x], p, hp0.symm, by omega, lx.1, by rw [List.length_singleton]; omega, rfl, rfl⟩, ?_⟩
    rintro n _ _ ⟨acc, p, hr, hn, hpl, hal, rfl, rfl⟩
    have c2 : ∀ K : Bool → M → RT.OS → Prop, K (decide (p < T.length)) (Y acc) (RO b k T p) → xT (fun os => (dTest (dOp rLt (dFld os "Reader" "place" (dVar 0)) (dBi bLen (dCons (dFld os "Reader" "tokens" (dVar 0)) dNil))))) (fun x d m os => Ex x d m.st os) (Y acc) (RO b k T p) K := fun K hK => by
      unfold xT dTest dOp
      dsimp only
      refine f_p rfl ?_
      dsimp only [dBi, dCons, dNil]
      refine f_t rfl ?_
      refine ⟨trivial, ?_⟩
      show K (decide ((p : Int) < ((T.map wD).length : Int))) _ _
      rw [List.length_map, show decide ((p : Int) < (T.length : Int)) = decide (p < T.length) from decide_eq_decide.mpr (by omega)]
      exact hK
    refine c2 _ ?_
    cases n with
    | zero => omega
    | succ n =>
    have hq : pRest T (n + 1) acc p = if p < T.length then (if T[p]? = some [59] then (match pElem T (p + 1) with
      | .error e => .error e
      | .ok (x, q) => pRest T n (acc ++ [x]) q) else .error (.tok (p + 1))) else .ok acc := rfl
    rw [hr] at hq
    by_cases hlt : p < T.length
    · rw [if_pos hlt] at hq
      rw [if_pos (decide_eq_true hlt), sx_semi]
      unfold xSeq xIf xNot xTru xMeth xE
      dsimp only [dVar]
      refine ⟨mth_k (by decide +kernel) (by decide +kernel), ?_⟩
      refine is_next_ok (fun x hx => (hT.1 x hx).1) (by unfold Asc; decide) ?_
      by_cases hs : T[p]? = some [59]
      · rw [if_pos hs] at hq
        have hnx : pNx T p [59] = p + 1 := if_pos hs
        rw [decide_eq_true hs, hnx]
        dsimp only
        rw [if_neg (by decide)]
        refine ⟨st.length, rfl, ⟨_, getElem_last _ _⟩, ?_⟩
        refine ⟨mth_k (by decide +kernel) (by decide +kernel), ?_⟩
        refine element_ok hT hlt (fun x q hx => ?_) (fun er hx q => h2 er (by rw [eres, hq, hx]) _ _)
        rw [hx] at hq
        have lx := pElem_le hx
        refine ⟨_, rfl, onC_mk (getElem_last _ _) ⟨?_, ?_⟩⟩
        · rw [List.length_map]
          exact small_lt (by have := hT.2; omega)
        · refine ⟨n, Nat.lt_succ_self n, acc ++ [x], q, hq.symm, by omega, lx.1, by rw [List.length_append, List.length_singleton]; omega, ?_, rfl⟩
          show (⟨_, (st ++ [_]).set st.length _⟩ : M) = _
          rw [set_last]
          dsimp only [Y]
          rw [List.map_append]
          rfl
      · rw [if_neg hs] at hq
        have hnx : pNx T p [59] = p := if_neg hs
        rw [decide_eq_false hs, hnx]
        dsimp only
        rw [if_pos (by decide)]
        unfold xRaise dOp
        dsimp only
        refine f_p rfl ?_
        have := h2 (.tok (p + 1)) (by rw [eres, hq]) [Cell.lst (acc.map elD)] p
        refine ⟨?_, this⟩
        have := log_le (z := ((p : Int) + 1)) (n := 2000000) (b := 20) (by have := hT.2; omega) (by decide +kernel)
        omega
    · rw [if_neg hlt] at hq
      rw [if_neg (by simpa using hlt)]
      have := h1 e acc p (by rw [eres]; exact hq)
      exact this
end
end X
end PG

set_option maxRecDepth 100000
set_option maxHeartbeats 4000000

namespace PG
open PySem PySem.Spec PyProof.Rows L2 RT S
namespace X
def goodE : El → Bool
  | .afocal m => !decide (m = 0)
  | .stop (some lo) (some hi) => !decide (hi < lo)
  | _ => true
def GZ : El → Prop
  | .stop (some lo) (some hi) => zb hi + zb lo < ZM
  | _ => True
section
variable {b : RT.OS} {st : List Cell} {k : Nat} {l : List Nat} {Q : Vl → List Cell → Prop} {QO : Vl → List Cell → RT.OS → Prop} {Ex : EXS}
theorem init_ok (hl : l.length ≤ 100000) (hc : Asc l) (h : QO (.d .non) st (RO b k (toksF l) 0)) : sp_Reader___init__ [.c k, .d (wD l)] st (setO b k (.obj "Reader" [])) QO Ex := by
  unfold sp_Reader___init__
  refine ⟨rfl, ?_⟩
  refine tokens_ok hl hc ?_
  refine ⟨k, [], rfl, lk_set b, (by show 0 < 900; decide), ?_⟩
  rw [set_set]
  refine ⟨k, [("tokens", .d (.lst ((toksF l).map wD)))], rfl, lk_set b, (by show 1 < 900; decide), ?_⟩
  rw [set_set]
  have e : putV ("place" : Str) (.d (.int 0)) [(("tokens" : Str), .d (.lst ((toksF l).map wD)))] = [(("tokens" : Str), .d (.lst ((toksF l).map wD))), (("place" : Str), .d (.int ((0 : Nat) : Int)))] := by
    unfold putV
    rw [if_neg (by decide +kernel)]
    rfl
  rw [e]
  exact h
theorem nmq (e : El) (s : Str) : eqD (.str (nmE e)) (.str s) = decide (nmE e = s) := eqS _ _
theorem good_ok {e : El} (hz : GZ e) (h : Q (.d (.bl (goodE e))) st) : sp_is_good [.d (elD e)] st Q := by
  unfold sp_is_good
  refine ⟨rfl, ?_⟩
  let M0 : M := ⟨[some (.d (elD e))], st⟩
  have c1 : ∀ K : Bool → M → Prop, K (decide (nmE e = ("afocal" : Str))) M0 → dTest (dOp RT.rEq (dOp RT.rIx (dVar 0) (dC (.int 0))) (dC (.str ("afocal" : Str)))) M0 K := fun K hK => by
    refine nm_ix ?_
    refine ⟨shN e, s_afocal, ?_⟩
    show K (eqD (.str (nmE e)) (.str ("afocal" : Str))) M0
    rw [nmq]
    exact hK
  have c2 : ∀ K : Bool → M → Prop, K (decide (nmE e = ("stop" : Str))) M0 → dTest (dOp RT.rEq (dOp RT.rIx (dVar 0) (dC (.int 0))) (dC (.str ("stop" : Str)))) M0 K := fun K hK => by
    refine nm_ix ?_
    refine ⟨shN e, s_stop, ?_⟩
    show K (eqD (.str (nmE e)) (.str ("stop" : Str))) M0
    rw [nmq]
    exact hK
  have g1 : ∀ {a : DS} {rest : DS} {E : DEnds}, nmE e ≠ ("afocal" : Str) → rest E M0 → dSeq (dIfS (dTest (dOp RT.rEq (dOp RT.rIx (dVar 0) (dC (.int 0))) (dC (.str ("afocal" : Str))))) a dNext) rest E M0 := fun hn h => c1 _ (by
    rw [decide_eq_false hn, if_neg (by decide)]
    exact h)
  have g2 : ∀ {t : DT} {a : DS} {rest : DS} {E : DEnds}, nmE e ≠ ("stop" : Str) → rest E M0 → dSeq (dIfS (dAnd (dTest (dOp RT.rEq (dOp RT.rIx (dVar 0) (dC (.int 0))) (dC (.str ("stop" : Str))))) t) a dNext) rest E M0 := fun hn h => c2 _ (by
    rw [decide_eq_false hn]
    show if false = true then _ else _
    rw [if_neg (by decide)]
    exact h)
  have g1t : ∀ {a : DS} {rest : DS} {E : DEnds}, nmE e = ("afocal" : Str) → a ⟨fun m => rest E m, E.rt, E.bk, E.ct⟩ M0 → dSeq (dIfS (dTest (dOp RT.rEq (dOp RT.rIx (dVar 0) (dC (.int 0))) (dC (.str ("afocal" : Str))))) a dNext) rest E M0 := fun hn h => c1 _ (by
    rw [decide_eq_true hn, if_pos rfl]
    exact h)
  have g2t : ∀ {t : DT} {a : DS} {rest : DS} {E : DEnds}, nmE e = ("stop" : Str) → t M0 (fun b m => if b = true then a ⟨fun m => rest E m, E.rt, E.bk, E.ct⟩ m else rest E m) → dSeq (dIfS (dAnd (dTest (dOp RT.rEq (dOp RT.rIx (dVar 0) (dC (.int 0))) (dC (.str ("stop" : Str))))) t) a dNext) rest E M0 := fun hn h => c2 _ (by
    rw [decide_eq_true hn]
    exact h)
  cases e with
  | gap g => exact g1 (by show ("gap" : Str) ≠ "afocal"; decide +kernel) (g2 (by show ("gap" : Str) ≠ "stop"; decide +kernel) (ret_ok (kp := false) h))
  | lens a c => exact g1 (by show ("lens" : Str) ≠ "afocal"; decide +kernel) (g2 (by show ("lens" : Str) ≠ "stop"; decide +kernel) (ret_ok (kp := false) h))
  | prism g => exact g1 (by show ("prism" : Str) ≠ "afocal"; decide +kernel) (g2 (by show ("prism" : Str) ≠ "stop"; decide +kernel) (ret_ok (kp := false) h))
  | afocal m =>
    refine g1t rfl ?_
    refine ret_st (m' := M0) (.bl (goodE (.afocal m))) (fun K hK => ?_) (by rw [List.take_length]; exact h)
    rw [v_zero]
    show shD (fr m) ∧ shD (fr 0) ∧ K (.d (.bl (!eqD (fr m) (fr 0)))) M0
    rw [eqD_fr]
    exact ⟨sh_fr', sh_fr', hK⟩
  | stop lo hi =>
    refine g1 (by show ("stop" : Str) ≠ "afocal"; decide +kernel) ?_
    refine g2t rfl ?_
    cases lo with
    | none => exact ret_ok (kp := false) h
    | some lo =>
      cases hi with
      | none => exact ret_ok (kp := false) h
      | some hi =>
        have e1 : ∀ P : Bool → M → Prop, P true M0 → dAnd (dTest (dNotN (dOp RT.rIx (dVar 0) (dC (Dt.int 1))))) (dTest (dNotN (dOp RT.rIx (dVar 0) (dC (Dt.int 2))))) M0 P := fun P hP => hP
        refine e1 _ ?_
        rw [if_pos rfl]
        refine ret_st (m' := M0) (.bl (goodE (.stop (some lo) (some hi)))) (fun K hK => ?_) (by rw [List.take_length]; exact h)
        unfold dNotV dCall
        dsimp only
        have e2 : ∀ P : Vl → List Cell → Prop, P (.d (.bl (decide (hi < lo)))) st → sp_is_less [.d (fr hi), .d (fr lo)] st P := fun P hP => is_less_ok hz hP
        exact e2 _ hK
end
end X
end PG

set_option maxRecDepth 100000
set_option maxHeartbeats 4000000

namespace PG
open PySem PySem.Spec PyProof.Rows L2 RT S
namespace X
theorem tokR_tok {N : Nat} : ∀ (rest : List Nat) (acc : List (List Nat)) (w : List Nat), (∀ v ∈ acc, Asc v ∧ v.length ≤ N) → Asc w → Asc rest → w.length + rest.length ≤ N → 1 ≤ N →
    (∀ v ∈ tokR rest acc w, Asc v ∧ v.length ≤ N) ∧ (tokR rest acc w).length ≤ acc.length + 2 * rest.length
  | [], acc, w, ha, _, _, _, _ => ⟨ha, by show acc.length ≤ _; omega⟩
  | c :: r, acc, w, ha, hw, hr, hl, hN => by
    have hr' : Asc r := fun x hx => hr x (List.mem_cons_of_mem _ hx)
    rw [List.length_cons] at hl
    unfold tokR
    split
    · have hacc : ∀ v ∈ (acc ++ if w = [] then [] else [w]) ++ if c = 59 then [[59]] else [], Asc v ∧ v.length ≤ N := fun v hv => by
        rcases List.mem_append.mp hv with h | h
        · rcases List.mem_append.mp h with h | h
          · exact ha v h
          · split at h
            · cases h
            · rw [List.mem_singleton.mp h]
              exact ⟨hw, by omega⟩
        · split at h
          · rw [List.mem_singleton.mp h]
            exact ⟨asc_one (by decide), hN⟩
          · cases h
      have hlen : ((acc ++ if w = [] then [] else [w]) ++ if c = 59 then [[59]] else []).length ≤ acc.length + 2 := by
        rw [List.length_append, List.length_append]
        split <;> split <;> simp
      obtain ⟨a, b⟩ := tokR_tok r _ [] hacc asc_nil hr' (by rw [List.length_nil]; omega) hN
      refine ⟨a, ?_⟩
      rw [List.length_cons]
      omega
    · obtain ⟨a, b⟩ := tokR_tok r acc (w ++ [c]) ha (asc_app hw (asc_one (hr c List.mem_cons_self))) hr' (by rw [List.length_append, List.length_singleton]; omega) hN
      refine ⟨a, ?_⟩
      rw [List.length_cons]
      omega
theorem toks_TOK {l : List Nat} (hl : l.length ≤ 90000) (hc : Asc l) : TOK (toksF l) := by
  obtain ⟨a, b⟩ := tokR_tok (N := 100000) (l ++ [32]) [] [] (fun v hv => nomatch hv) asc_nil (asc_app hc (asc_one (by decide))) (by rw [List.length_append, List.length_singleton, List.length_nil]; omega) (by decide)
  refine ⟨a, ?_⟩
  rw [List.length_nil, List.length_append, List.length_singleton] at b
  unfold toksF
  omega
theorem sgF_abs {l : List Nat} {n : Nat} (h : n ≤ 1000000) : (sgF l n).natAbs ≤ 1000000 := by
  unfold sgF
  split <;> omega
theorem fracF_z {l : List Nat} {x : Rat} (h : fracF l = some x) : zb x ≤ 60 := by
  unfold fracF at h
  split at h
  · cases h
    decide +kernel
  · unfold numsF at h
    split at h
    · split at h
      · rename_i n hn
        cases h
        have := natF_pos hn
        have s := sgF_abs (l := l) this.2
        have := zb_small (n := sgF l n) (d := 1) (b := 20) (by omega) (by omega) (by omega) (by decide)
        omega
      · cases h
    · split at h
      · rename_i n d hn hd
        cases h
        have a := natF_pos hn
        have b := natF_pos hd
        have s := sgF_abs (l := l) a.2
        have := zb_small (n := sgF l n) (d := (d : Int)) (b := 20) (by omega) (by omega) (by omega) (by decide)
        omega
      · cases h
    · cases h
end X
end PG

set_option maxRecDepth 100000
set_option maxHeartbeats 4000000

namespace PG
open PySem PySem.Spec PyProof.Rows L2 RT S
namespace X
theorem gx_allL {α : Type} (f : α → Dt) (p : α → Bool) {sl slw : List (Option Vl)} {g : Tgt} {te : DE} {all : List Dt} {lk : Option Nat} {K : Bool → M → Prop} {st : List Cell} (hlk : lockOk lk all ⟨sl, st⟩) :
    ∀ {xs : List α}, (∀ x ∈ xs, ∀ (C : Vl → M → Prop), (∀ sl', C (.d (.bl (p x))) ⟨sl', st⟩) → tgD g (.d (f x)) ⟨slw, st⟩ fun m1 => te m1 C) → K (xs.all p) ⟨sl, st⟩ → dGxGo true sl slw g te all lk K (xs.map f) st
  | [], _, h => ⟨hlk, h⟩
  | x :: r, hs, h => ⟨hlk, hs x List.mem_cons_self _ fun sl' => by
    show if p x = true then _ else _
    rw [List.all_cons] at h
    cases hp : p x with
    | true =>
      rw [hp, Bool.true_and] at h
      rw [if_pos rfl]
      exact gx_allL f p hlk (fun y hy => hs y (List.mem_cons_of_mem _ hy)) h
    | false =>
      rw [hp, Bool.false_and] at h
      rw [if_neg (by decide)]
      exact h⟩
def stB (e : El) : Bool := decide (nmE e = ("stop" : Str))
inductive PRes where
  | good (es : List El)
  | err (e : Perr)
  | bad
def judgeE (es : List El) : Bool := decide (16 < es.length) || (decide (8 < (es.filter stB).length) || !es.all goodE)
def parseF (l : List Nat) : PRes := match pTrain (toksF l) with
  | .error e => .err e
  | .ok es => if judgeE es = true then .bad else .good es
theorem filt_lk' {α : Type} {f h : α → Dt} {p : α → Bool} {sl slw : List (Option Vl)} {i : Nat} {lk : Option Nat} {tt : DT} {te : DE} {all : List Dt} {st : List Cell} {K : List Dt → M → Prop} (hlk : lockOk lk all ⟨sl, st⟩) :
    ∀ (xs acc : List α), (∀ a ∈ xs, ∀ (P : Bool → M → Prop), P (p a) ⟨slw.set i (some (.d (f a))), st⟩ → tt ⟨slw.set i (some (.d (f a))), st⟩ P) → (∀ a ∈ xs, ∀ (C : Vl → M → Prop), C (.d (h a)) ⟨slw.set i (some (.d (f a))), st⟩ → te ⟨slw.set i (some (.d (f a))), st⟩ C) →
      acc.length + xs.length ≤ 100000 → K ((acc ++ xs.filter p).map h) ⟨sl, st⟩ → dLcGo sl slw (.nm i) tt te all lk K (xs.map f) (acc.map h) st
  | [], acc, _, _, _, hK => ⟨hlk, by rw [List.filter_nil, List.append_nil] at hK; exact hK⟩
  | x :: xs, acc, ht, he, hl, hK => by
    rw [List.length_cons] at hl
    refine ⟨hlk, ht x List.mem_cons_self _ ?_⟩
    have ht' := fun a (ha : a ∈ xs) => ht a (List.mem_cons_of_mem _ ha)
    have he' := fun a (ha : a ∈ xs) => he a (List.mem_cons_of_mem _ ha)
    rw [List.filter_cons] at hK
    cases c : p x with
    | true =>
      rw [c, if_pos rfl] at hK
      refine he x List.mem_cons_self _ ?_
      refine ⟨by rw [List.length_map]; exact small_lt (by omega), ?_⟩
      have := filt_lk' (f := f) (h := h) (p := p) (te := te) hlk xs (acc ++ [x]) ht' he' (by rw [List.length_append, List.length_singleton]; omega) (by rw [List.append_assoc]; exact hK)
      rw [List.map_append] at this
      exact this
    | false =>
      rw [c, if_neg (by decide)] at hK
      exact filt_lk' hlk xs acc ht' he' (by omega) hK
theorem tail_ok {st1 : List Cell} {t : Option Vl} {v : Vl} {lk : Option Nat} {es : List El} {os : RT.OS} {Ex : EXO} {E : DOEnds} (hl : es.length ≤ 90000) (hz : ∀ e ∈ es, GZ e) (hlk : ∀ sl, lockOk lk (es.map elD) ⟨sl, st1⟩)
    (hv : ∀ (a b : Option Vl) (R : List Dt → Option Nat → M → Prop), R (es.map elD) lk ⟨[t, some v, a, b], st1⟩ → dAny (dVar 1) ⟨[t, some v, a, b], st1⟩ R)
    (hb : ∀ (a b : Option Vl) (R : Vl → M → Prop), R (.d (.int es.length)) ⟨[t, some v, a, b], st1⟩ → dBi bLen (dCons (dVar 1) dNil) ⟨[t, some v, a, b], st1⟩ R)
    (hg : judgeE es = false → ∀ a b, E.rt v ⟨[t, some v, a, b], st1⟩ os) (hn : judgeE es = true → ∀ a b, Ex "BadTrain" .non ⟨[t, some v, a, b], st1⟩ os) :
    (xSeq (xS fun _ => (dSet 2 (dLc false (dAny (dVar 1)) (.nm 3) (dTest (dOp RT.rEq (dOp RT.rIx (dVar 3) (dC (.int 0))) (dC (.str ("stop" : Str))))) (dVar 3) [3])))
      (xSeq (xIf (xT fun _ => (dOr (dTest (dOp rGt (dBi bLen (dCons (dVar 1) dNil)) (dC PG.v_ELEMENTS_MOST))) (dOr (dTest (dOp rGt (dBi bLen (dCons (dVar 2) dNil)) (dC PG.v_STOPS_MOST))) (dNot (dTru (dGx true (dAny (dVar 1)) (.nm 3) (dCall PG.sp_is_good [] (dCons (dVar 3) dNil)) [3]))))))
      (xRaise0 ("BadTrain" : Str)) xNext) (xS fun _ => (dRet (dVar 1))))) Ex E ⟨[t, some v, none, none], st1⟩ os := by
  let F : Option Vl := some (.d (.lst ((es.filter stB).map elD)))
  refine xseq_to ⟨[t, some v, F, none], st1⟩ (fun K hK => ?_) ?_
  · unfold dSet dLc
    dsimp only
    refine hv _ _ _ ?_
    refine filt_lk' (p := stB) (h := elD) (hlk _) es [] (fun e he P hP => ?_) (fun e he C hC => hC) (by rw [List.length_nil]; omega) ?_
    · refine nm_ix ?_
      refine ⟨shN e, s_stop, ?_⟩
      show P (eqD (.str (nmE e)) (.str ("stop" : Str))) _
      rw [nmq]
      exact hP
    · exact hK
  have cnd : ∀ K : Bool → M → Prop, K (judgeE es) ⟨[t, some v, F, none], st1⟩ → (dOr (dTest (dOp rGt (dBi bLen (dCons (dVar 1) dNil)) (dC PG.v_ELEMENTS_MOST))) (dOr (dTest (dOp rGt (dBi bLen (dCons (dVar 2) dNil)) (dC PG.v_STOPS_MOST))) (dNot (dTru (dGx true (dAny (dVar 1)) (.nm 3) (dCall PG.sp_is_good [] (dCons (dVar 3) dNil)) [3]))))) ⟨[t, some v, F, none], st1⟩ K := fun K hK => by
    unfold dOr dTest dOp
    refine hb _ _ _ ?_
    show True ∧ if decide ((16 : Int) < (es.length : Int)) = true then _ else _
    refine ⟨trivial, ?_⟩
    unfold judgeE at hK
    refine ifd (fun e => ?_) fun e => ?_
    · rw [decide_eq_true (by omega : 16 < es.length)] at hK
      exact hK
    rw [decide_eq_false (by omega : ¬ 16 < es.length), Bool.false_or] at hK
    show True ∧ if decide ((8 : Int) < (((es.filter stB).map elD).length : Int)) = true then _ else _
    rw [List.length_map]
    refine ⟨trivial, ?_⟩
    refine ifd (fun e => ?_) fun e1 => ?_
    · rw [decide_eq_true (by omega : 8 < (es.filter stB).length)] at hK
      exact hK
    rw [decide_eq_false (by omega : ¬ 8 < (es.filter stB).length), Bool.false_or] at hK
    unfold dNot dTru dGx
    dsimp only
    refine hv _ _ _ ?_
    refine gx_allL elD goodE (hlk _) (fun e he C hC => ?_) ?_
    · exact good_ok (hz e he) (hC _)
    · exact hK
  cases hj : judgeE es with
  | true =>
    refine xthen (m' := ⟨[t, some v, F, none], st1⟩) (fun K hK => cnd K (by rw [hj]; exact hK)) ?_
    exact hn hj _ _
  | false =>
    refine xguard (m' := ⟨[t, some v, F, none], st1⟩) (fun K hK => cnd K (by rw [hj]; exact hK)) ?_
    exact hg hj _ _
section
variable {b : RT.OS} {st : List Cell} {l : List Nat} {QO : Vl → List Cell → RT.OS → Prop} {Ex : EXS}
theorem parse_ok (hl : l.length ≤ 90000) (hc : Asc l) (hz : ∀ es, pTrain (toksF l) = .ok es → ∀ e ∈ es, GZ e) (hn : ∀ es, pTrain (toksF l) = .ok es → es.length ≤ 90000)
    (h1 : ∀ os, toksF l = [] → QO (.d (.lst [])) (st ++ [.dead]) os) (h2 : ∀ es os, toksF l ≠ [] → parseF l = .good es → QO (.c (st ++ [Cell.dead]).length) ((st ++ [.dead]) ++ [.lst (es.map elD)]) os)
    (h3 : ∀ e, parseF l = .err e → ∀ ys os, Ex e.nm e.dt ((st ++ [.dead]) ++ ys) os) (h4 : parseF l = .bad → ∀ ys os, Ex "BadTrain" .non ((st ++ [.dead]) ++ ys) os) : sp_parse_train [.d (wD l)] st b QO Ex := by
  unfold sp_parse_train
  refine ⟨rfl, ?_⟩
  show sp_Reader___init__ [.c st.length, .d (wD l)] (st ++ [.dead]) (setO b st.length (.obj "Reader" [])) _ _
  refine init_ok (by omega) hc ⟨rfl, ?_⟩
  refine ⟨mth_k (by decide +kernel) (by decide +kernel), ?_⟩
  refine train_ok (toks_TOK hl hc) (fun e0 => ?_) (fun e0 es q hes => ?_) (fun e he ys q => ?_)
  · have hp : pTrain (toksF l) = .ok [] := if_pos e0
    dsimp only
    refine tail_ok (es := []) (lk := none) (v := .d (.lst [])) (t := some (.d (wD l))) (Nat.zero_le _) (fun e he => nomatch he) (fun _ => trivial) (fun a b R h => h) (fun a b R h => h) (fun _ a b => ?_) (fun hj => ?_)
    · exact h1 _ e0
    · exact absurd hj (by decide)
  · dsimp only
    refine tail_ok (es := es) (lk := some (st ++ [Cell.dead]).length) (v := .c (st ++ [Cell.dead]).length) (t := some (.d (wD l))) (hn es hes) (hz es hes) (fun _ => getElem_last _ _) (fun a b R h => ?_) (fun a b R h => ?_) (fun hj a b => ?_) (fun hj a b => ?_)
    · exact onC_mk (getElem_last _ _) h
    · have hv : view ⟨[some (.d (wD l)), some (.c (st ++ [Cell.dead]).length), a, b], st ++ [Cell.dead] ++ [Cell.lst (es.map elD)]⟩ (.c (st ++ [Cell.dead]).length) = some (.lst (es.map elD)) := by
        unfold view
        dsimp only
        rw [getElem_last]
      unfold dBi dCons dNil dVar
      simp only [List.getElem?_cons_succ, List.getElem?_cons_zero]
      unfold onVs onV
      rw [hv]
      show R (.d (.int ((es.map elD).length : Int))) _
      rw [List.length_map]
      exact h
    · refine h2 es _ e0 ?_
      unfold parseF
      rw [hes]
      dsimp only
      rw [hj, if_neg (by decide)]
    · refine h4 ?_ _ _
      unfold parseF
      rw [hes]
      dsimp only
      rw [hj, if_pos rfl]
  · refine h3 e ?_ ys _
    unfold parseF
    rw [he]
end
end X
end PG

set_option maxRecDepth 100000
set_option maxHeartbeats 4000000

namespace PG
open PySem PySem.Spec PyProof.Rows L2 RT S
namespace X
theorem str_cs' {s : String} {w : List Nat} (h : Str.ofString s = Sx w) : Dt.str (Str.ofString s) = wD w := by
  unfold wD
  rw [h]
def Ev (t : DE) (m : M) (d : Dt) : Prop := ∀ K : Vl → M → Prop, K (.d d) m → t m K
section
variable {a b t : DE} {m : M} {x y z d : Dt} {w v : List Nat}
theorem ev_c (x : Dt) : Ev (dC x) m x := fun K h => h
theorem ev_w {s : String} (h : Str.ofString s = Sx w) : Ev (dC (.str (Str.ofString s))) m (wD w) := fun K hK => by
  rw [str_cs' h]
  exact hK
theorem ev_var {i : Nat} (h : m.sl[i]? = some (some (.d d))) : Ev (dVar i) m d := fun K hK => by
  unfold dVar
  rw [h]
  exact hK
theorem ev_op {r : DR2} (hr : ∀ P : Dt → Prop, P z → r x y P) (ha : Ev a m x) (hb : Ev b m y) : Ev (dOp r a b) m z := fun K h => ha _ (hb _ (onV_dm (onV_dm (hr _ h))))
theorem ev_bi {r : DRB} (hr : ∀ P : Dt → Prop, P z → r [x] P) (ha : Ev a m x) : Ev (dBi r (dCons a dNil)) m z := fun K h => ha _ (onVs_1 (P := fun xs => r xs fun z => K (.d z) m) (hr (fun z => K (.d z) m) h))
theorem ev_call {sp : FSpec} (hr : ∀ Q : Vl → List Cell → Prop, Q (.d z) m.st → sp [.d x] m.st Q) (ha : Ev a m x) : Ev (dCall sp [] (dCons a dNil)) m z := fun K h => ha _ (hr _ h)
theorem ev_ix {xs : List Dt} {i : Int} (ha : Ev a m (.lst xs)) (hb : Ev b m (.int i)) (h : atI xs i = some z) : Ev (dOp RT.rIx a b) m z := ev_op (x := .lst xs) (y := .int i) (fun P hP => rIx_mk h hP) ha hb
theorem ev_addi {i j : Int} (ha : Ev a m (.int i)) (hb : Ev b m (.int j)) : Ev (dOp rAddA a b) m (.int (i + j)) := ev_op (x := .int i) (y := .int j) (fun P hP => hP) ha hb
theorem ev_subi {i j : Int} (ha : Ev a m (.int i)) (hb : Ev b m (.int j)) : Ev (dOp RT.rSub a b) m (.int (i - j)) := ev_op (x := .int i) (y := .int j) (fun P hP => ⟨trivial, hP⟩) ha hb
theorem ev_eqi {i j : Int} (ha : Ev a m (.int i)) (hb : Ev b m (.int j)) : Ev (dOp RT.rEq a b) m (.bl (decide (i = j))) := ev_op (x := .int i) (y := .int j) (fun P hP => ⟨sh_ok (n := 0) sh_int, sh_ok (n := 0) sh_int, by rw [eqD_int]; exact hP⟩) ha hb
theorem ev_test {b : Bool} (h : Ev t m (.bl b)) {K : Bool → M → Prop} (hK : K b m) : dTest t m K := h _ (by cases b <;> exact hK)
theorem ev_set {i : Nat} {E : DEnds} {u : DS} (h : Ev t m d) (hu : u E ⟨m.sl.set i (some (.d d)), m.st⟩) : dSeq (dSet i t) u E m := h _ hu
theorem difs_no {c : DT} {a : DS} {E : DEnds} (hc : ∀ K : Bool → M → Prop, K false m → c m K) (h : E.nx m) : dIfS c a dNext E m := hc _ (by
  rw [if_neg Bool.false_ne_true]
  exact h)
theorem difs_yes {c : DT} {a u : DS} {E : DEnds} (hc : ∀ K : Bool → M → Prop, K true m → c m K) (h : a E m) : dIfS c a u E m := hc _ (by
  rw [if_pos rfl]
  exact h)
end
end X
end PG

set_option maxRecDepth 100000
set_option maxHeartbeats 4000000

namespace PG
open PySem PySem.Spec PyProof.Rows L2 RT S
namespace X
end X
end PG

set_option maxRecDepth 100000
set_option maxHeartbeats 4000000

namespace PG
open PySem PySem.Spec PyProof.Rows L2 RT S
namespace X
end X
end PG

set_option maxRecDepth 100000
set_option maxHeartbeats 4000000

namespace PG
open PySem PySem.Spec PyProof.Rows L2 RT S
namespace X
def tokS : List Nat → List (List Nat) → List Nat → List (List Nat) × List Nat
  | [], acc, w => (acc, w)
  | c :: r, acc, w => if c = 32 ∨ c = 59 then tokS r ((acc ++ if w = [] then [] else [w]) ++ if c = 59 then [[59]] else []) [] else tokS r acc (w ++ [c])
theorem tokR_S : ∀ (l : List Nat) (acc : List (List Nat)) (w : List Nat), tokR l acc w = (tokS l acc w).1
  | [], _, _ => rfl
  | c :: r, acc, w => by
    unfold tokR tokS
    by_cases h : c = 32 ∨ c = 59
    · rw [if_pos h, if_pos h]
      exact tokR_S r _ _
    · rw [if_neg h, if_neg h]
      exact tokR_S r _ _
theorem tokS_cons (c : Nat) (r : List Nat) (acc : List (List Nat)) (w : List Nat) : tokS (c :: r) acc w = if c = 32 ∨ c = 59 then tokS r ((acc ++ if w = [] then [] else [w]) ++ if c = 59 then [[59]] else []) [] else tokS r acc (w ++ [c]) := rfl
theorem tokS_app : ∀ (l m : List Nat) (acc : List (List Nat)) (w : List Nat), tokS (l ++ m) acc w = tokS m (tokS l acc w).1 (tokS l acc w).2
  | [], _, _, _ => rfl
  | c :: r, m, acc, w => by
    rw [List.cons_append, tokS_cons, tokS_cons]
    by_cases h : c = 32 ∨ c = 59
    · rw [if_pos h, if_pos h]
      exact tokS_app r m _ _
    · rw [if_neg h, if_neg h]
      exact tokS_app r m _ _
def fl (s : List (List Nat) × List Nat) : List (List Nat) := s.1 ++ if s.2 = [] then [] else [s.2]
def stT (l : List Nat) : List (List Nat) × List Nat := tokS l [] []
theorem toks_fl (l : List Nat) : toksF l = fl (stT l) := by
  unfold toksF
  rw [tokR_S, tokS_app]
  unfold stT fl
  generalize tokS l [] [] = s
  show (tokS [32] s.1 s.2).1 = _
  rw [tokS_cons, if_pos (Or.inl rfl), if_neg (show ¬ (32 : Nat) = 59 by decide), List.append_nil]
  rfl
def Rdy (l : List Nat) (W : List (List Nat)) : Prop := stT l = (W, [])
def Wd (w : List Nat) : Prop := w ≠ [] ∧ ∀ c ∈ w, c ≠ 32 ∧ c ≠ 59
theorem tokS_word : ∀ (w : List Nat) (acc : List (List Nat)) (u : List Nat), (∀ c ∈ w, c ≠ 32 ∧ c ≠ 59) → tokS w acc u = (acc, u ++ w)
  | [], acc, u, _ => by rw [List.append_nil]; rfl
  | c :: r, acc, u, h => by
    have hc := h c List.mem_cons_self
    unfold tokS
    rw [if_neg (fun e => e.elim hc.1 hc.2), tokS_word r _ _ (fun x hx => h x (List.mem_cons_of_mem _ hx)), List.append_assoc]
    rfl
theorem rdy_nil : Rdy [] [] := rfl
theorem Rdy.toks {l : List Nat} {W : List (List Nat)} (h : Rdy l W) : toksF l = W := by
  rw [toks_fl, h]
  unfold fl
  rw [if_pos rfl, List.append_nil]
theorem Rdy.word {l w : List Nat} {W : List (List Nat)} (h : Rdy l W) (hw : Wd w) : toksF (l ++ w) = W ++ [w] := by
  rw [toks_fl]
  unfold stT
  rw [tokS_app]
  have h : tokS l [] [] = (W, []) := h
  rw [h, tokS_word _ _ _ hw.2]
  unfold fl
  rw [if_neg (by simpa using hw.1)]
  rfl
theorem rdy_sp {l : List Nat} {W : List (List Nat)} (h : toksF l = W) : Rdy (l ++ [32]) W := by
  rw [toks_fl] at h
  unfold Rdy stT
  rw [tokS_app]
  unfold stT fl at h
  generalize tokS l [] [] = s at *
  rw [tokS_cons, if_pos (Or.inl rfl), if_neg (show ¬ (32 : Nat) = 59 by decide), List.append_nil, h]
  rfl
theorem rdy_sc {l : List Nat} {W : List (List Nat)} (h : toksF l = W) : Rdy (l ++ [59]) (W ++ [[59]]) := by
  rw [toks_fl] at h
  unfold Rdy stT
  rw [tokS_app]
  unfold stT fl at h
  generalize tokS l [] [] = s at *
  rw [tokS_cons, if_pos (Or.inr rfl), if_pos rfl, h]
  rfl
theorem rep_succ (l : List Nat) (n : Nat) : l ++ List.replicate (n + 1) 32 = (l ++ List.replicate n 32) ++ [32] := by
  rw [List.replicate_succ', List.append_assoc]
theorem rdy_gap {l : List Nat} {W : List (List Nat)} (h : toksF l = W) : ∀ n, toksF (l ++ List.replicate n 32) = W
  | 0 => by
    rw [List.replicate_zero, List.append_nil]
    exact h
  | n + 1 => by
    rw [rep_succ]
    exact (rdy_sp (rdy_gap h n)).toks
theorem rdy_gap1 {l : List Nat} {W : List (List Nat)} (h : toksF l = W) (n : Nat) : Rdy (l ++ List.replicate (n + 1) 32) W := by
  rw [rep_succ]
  exact rdy_sp (rdy_gap h n)
theorem Rdy.gap {l : List Nat} {W : List (List Nat)} (h : Rdy l W) (n : Nat) : Rdy (l ++ List.replicate n 32) W := by
  cases n with
  | zero =>
    rw [List.replicate_zero, List.append_nil]
    exact h
  | succ n => exact rdy_gap1 h.toks n
def Stp (l : List Nat) (W : List (List Nat)) : Prop := toksF l = W ∧ ((W = [] ∨ W.getLast? = some [59]) → Rdy l W)
def Sp (w : List Nat) : Prop := w = [59] ∨ Wd w
theorem Stp.sc {l : List Nat} {W : List (List Nat)} (h : toksF l = W) : Stp (l ++ [59]) (W ++ [[59]]) := ⟨(rdy_sc h).toks, fun _ => rdy_sc h⟩
theorem join_cons (S a : List Nat) (r : List (List Nat)) : TL.joinL S (a :: r) = a ++ r.flatMap fun w => S ++ w := by
  induction r generalizing a with
  | nil =>
    rw [TL.joinL.eq_def]
    show a = a ++ []
    rw [List.append_nil]
  | cons b r ih =>
    rw [TL.joinL.eq_def]
    dsimp only
    rw [ih b, List.flatMap_cons]
    simp only [List.append_assoc]
end X
end PG

set_option maxRecDepth 100000
set_option maxHeartbeats 4000000

namespace PG
open PySem PySem.Spec PyProof.Rows L2 RT S
namespace X
theorem pNum_z {T : List (List Nat)} {p q : Nat} {x : Rat} (h : pNum T p = .ok (x, q)) : zb x ≤ 60 := by
  unfold pNum at h
  split at h
  · cases h
  · split at h
    · cases h
    · rename_i hf
      cases h
      exact fracF_z hf
theorem pOpt_z {T : List (List Nat)} {p q : Nat} {w : List Nat} {x : Rat} (h : pOpt T p w = .ok (some x, q)) : zb x ≤ 60 := by
  unfold pOpt at h
  split at h
  · split at h
    · rename_i hn
      cases h
      exact pNum_z hn
    · cases h
  · cases h
theorem pStop_z {T : List (List Nat)} {p q : Nat} {e : El} (h : pStop T p = .ok (e, q)) : GZ e := by
  unfold pStop at h
  split at h
  · cases h
  · rename_i a p1 h1
    split at h
    · cases h
    · rename_i b p2 h2
      cases h
      cases a with
      | none => trivial
      | some a =>
        cases b with
        | none => trivial
        | some b =>
          have := pOpt_z h1
          have := pOpt_z h2
          show zb b + zb a < ZM
          rw [ZM_eq]
          omega
theorem pElem_z {T : List (List Nat)} {p q : Nat} {e : El} (h : pElem T p = .ok (e, q)) : GZ e := by
  unfold pElem at h
  split at h
  · cases h
  · split at h
    · split at h
      · exact pStop_z h
      · split at h
        · cases h
        · split at h
          · split at h
            · cases h
            · cases h
              trivial
          · cases h
            unfold elW
            split
            · trivial
            · split <;> trivial
    · cases h
theorem pRest_z {T : List (List Nat)} : ∀ (n : Nat) (acc : List El) (p : Nat) (es : List El), (∀ e ∈ acc, GZ e) → acc.length ≤ p → p ≤ T.length → pRest T n acc p = .ok es → (∀ e ∈ es, GZ e) ∧ es.length ≤ T.length
  | 0, acc, p, es, ha, hl, hp, h => by
    cases h
    exact ⟨ha, by omega⟩
  | n + 1, acc, p, es, ha, hl, hp, h => by
    unfold pRest at h
    split at h
    · split at h
      · split at h
        · cases h
        · rename_i x q hx
          have l := pElem_le hx
          refine pRest_z n (acc ++ [x]) q es (fun e he => ?_) (by rw [List.length_append, List.length_singleton]; omega) l.1 h
          rcases List.mem_append.mp he with he | he
          · exact ha e he
          · rw [List.mem_singleton.mp he]
            exact pElem_z hx
      · cases h
    · cases h
      exact ⟨ha, by omega⟩
theorem pTrain_z {T : List (List Nat)} {es : List El} (h : pTrain T = .ok es) : (∀ e ∈ es, GZ e) ∧ es.length ≤ T.length := by
  unfold pTrain at h
  split at h
  · cases h
    exact ⟨(fun e he => nomatch he), Nat.zero_le _⟩
  · split at h
    · cases h
    · rename_i x p hx
      have l := pElem_le hx
      exact pRest_z _ [x] p es (fun e he => by rw [List.mem_singleton.mp he]; exact pElem_z hx) (by rw [List.length_singleton]; omega) l.1 h
theorem toks_len {l : List Nat} (hl : l.length ≤ 40000) (hc : Asc l) : (toksF l).length ≤ 90000 := by
  obtain ⟨a, b⟩ := tokR_tok (N := 100000) (l ++ [32]) [] [] (fun v hv => nomatch hv) asc_nil (asc_app hc (asc_one (by decide))) (by rw [List.length_append, List.length_singleton, List.length_nil]; omega) (by decide)
  rw [List.length_nil, List.length_append, List.length_singleton] at b
  unfold toksF
  omega
section
variable {b : RT.OS} {st : List Cell} {l : List Nat} {QO : Vl → List Cell → RT.OS → Prop} {Ex : EXS}
theorem parse_pure (hl : l.length ≤ 40000) (hc : Asc l) (h1 : ∀ os, toksF l = [] → QO (.d (.lst [])) (st ++ [.dead]) os) (h2 : ∀ es os, toksF l ≠ [] → parseF l = .good es → QO (.c (st ++ [Cell.dead]).length) ((st ++ [.dead]) ++ [.lst (es.map elD)]) os)
    (h3 : ∀ e, parseF l = .err e → ∀ ys os, Ex e.nm e.dt ((st ++ [.dead]) ++ ys) os) (h4 : parseF l = .bad → ∀ ys os, Ex "BadTrain" .non ((st ++ [.dead]) ++ ys) os) : sp_parse_train [.d (wD l)] st b QO Ex :=
  parse_ok (by omega) hc (fun es h => (pTrain_z h).1) (fun es h => Nat.le_trans (pTrain_z h).2 (toks_len hl hc)) h1 h2 h3 h4
end
end X
end PG

set_option maxRecDepth 100000
set_option maxHeartbeats 4000000

namespace PG
open PySem PySem.Spec PyProof.Rows L2 RT S
namespace X
section
variable {st : List Cell} {Q : Vl → List Cell → Prop}
end
end X
end PG

set_option maxRecDepth 100000
set_option maxHeartbeats 4000000

namespace PG
open PySem PySem.Spec PyProof.Rows L2 RT S
namespace X
section
variable {a b t : DE} {m : M} {x y z d : Dt} {w v : List Nat}
end
section
variable {sl : List (Option Vl)} {pre : List Cell} {W : List (List Nat)} {E : DEnds} {ie : Nat} {e : El}
end
theorem sum_wl {W : List (List Nat)} {n : Nat} (h : ∀ w ∈ W, w.length ≤ n) : ((W.map Sx).map (·.length)).sum ≤ W.length * n := by
  induction W with
  | nil => simp
  | cons w W ih =>
    rw [List.map_cons, List.map_cons, List.sum_cons, List.length_cons, Nat.succ_mul, SX.S_len]
    have := ih (fun x hx => h x (List.mem_cons_of_mem _ hx))
    have := h w List.mem_cons_self
    omega
end X
end PG

set_option maxRecDepth 100000
set_option maxHeartbeats 4000000

namespace PG
open PySem PySem.Spec PyProof.Rows L2 RT S
namespace X
end X
end PG

set_option maxRecDepth 100000
set_option maxHeartbeats 4000000

namespace PG
open PySem PySem.Spec PyProof.Rows L2 RT S
namespace X
theorem strsD_w : ∀ l : List (List Nat), strsD (l.map wD) = some (l.map Sx)
  | [] => rfl
  | w :: r => by
    show (strsD (r.map wD)).map (Sx w :: ·) = _
    rw [strsD_w r]
    rfl
section
variable {st : List Cell} {Q : Vl → List Cell → Prop}
end
end X
end PG

set_option maxRecDepth 100000
set_option maxHeartbeats 4000000

namespace PG
open PySem PySem.Spec PyProof.Rows L2 RT S
namespace X
section
variable {st : List Cell} {Q : Vl → List Cell → Prop} {e : El}
end
end X
end PG

set_option maxRecDepth 100000
set_option maxHeartbeats 4000000

namespace PG
open PySem PySem.Spec PyProof.Rows L2 RT S
namespace X
section
variable {st : List Cell} {Q : Vl → List Cell → Prop}
theorem difs_els {c : DT} {a u : DS} {E : DEnds} {m : M} (hc : ∀ K : Bool → M → Prop, K false m → c m K) (h : u E m) : dIfS c a u E m := hc _ (by
  rw [if_neg Bool.false_ne_true]
  exact h)
theorem sc_w : Str.ofString ";" = Sx [59] := by decide +kernel
end
end X
end PG

set_option maxRecDepth 100000
set_option maxHeartbeats 4000000

namespace PG
open PySem PySem.Spec PyProof.Rows L2 RT S
namespace X
section
variable {ds : List Int} {i k : Nat} {st : List Cell} {Q : Vl → List Cell → Prop}
end
end X
end PG

set_option maxRecDepth 100000
set_option maxHeartbeats 4000000

namespace PG
open PySem PySem.Spec PyProof.Rows L2 RT S
namespace X
def Tv (c : DT) (m : M) (b : Bool) : Prop := ∀ K : Bool → M → Prop, K b m → c m K
section
variable {c d : DT} {m : M} {p q : Bool} {t u : DE} {x y : Dt} {w v : List Nat}
theorem tv_test (h : Ev t m (.bl p)) : Tv (dTest t) m p := fun K hK => ev_test h hK
theorem tv_or (h1 : Tv c m p) (h2 : Tv d m q) : Tv (dOr c d) m (p || q) := fun K hK => h1 _ (by
  cases p
  · rw [if_neg Bool.false_ne_true]
    exact h2 _ hK
  · rw [if_pos rfl]
    exact hK)
theorem tv_and (h1 : Tv c m p) (h2 : p = true → Tv d m q) : Tv (dAnd c d) m (p && q) := fun K hK => h1 _ (by
  cases p
  · rw [if_neg Bool.false_ne_true]
    exact hK
  · rw [if_pos rfl]
    exact h2 rfl _ hK)
theorem tv_not (h1 : Tv c m p) : Tv (dNot c) m (!p) := fun K hK => h1 _ hK
theorem tv_or2 (h1 : Tv c m p) (h2 : p = false → Tv d m q) : Tv (dOr c d) m (p || q) := fun K hK => h1 _ (by
  cases p
  · rw [if_neg Bool.false_ne_true]
    exact h2 rfl _ hK
  · rw [if_pos rfl]
    exact hK)
theorem ev_eqw (hw : Asc w) (hv : Asc v) (h1 : Ev t m (wD w)) (h2 : Ev u m (wD v)) : Ev (dOp RT.rEq t u) m (.bl (decide (w = v))) := ev_op (x := wD w) (y := wD v) (fun P hP => ⟨sh_w hw, sh_w hv, by
  unfold wD
  rw [eqX]
  exact hP⟩) h1 h2
theorem ev_same (hs : shD x) (h1 : Ev t m x) (h2 : Ev u m x) : Ev (dOp RT.rNe t u) m (.bl false) := ev_op (x := x) (y := x) (fun P hP => ⟨hs, hs, by rw [neD_self]; exact hP⟩) h1 h2
theorem ev_gti {i j : Int} (h1 : Ev t m (.int i)) (h2 : Ev u m (.int j)) : Ev (dOp RT.rGt t u) m (.bl (decide (j < i))) := ev_op (x := .int i) (y := .int j) (fun P hP => ⟨trivial, hP⟩) h1 h2
theorem ret_evK {E : DEnds} (h : Ev t m x) (hk : E.rt (.d x) m) : dRet t E m := h _ hk
theorem ev_orV (h1 : Ev t m (.bl p)) (h2 : p = false → Ev u m (.bl q)) : Ev (dOrV t u) m (.bl (p || q)) := fun K hK => h1 _ (by
  cases p
  · show if false = true then _ else _
    rw [if_neg Bool.false_ne_true]
    exact h2 rfl _ hK
  · show if true = true then _ else _
    rw [if_pos rfl]
    exact hK)
theorem set_ev {i : Nat} {E : DEnds} (h : Ev t m x) (hu : E.nx ⟨m.sl.set i (some (.d x)), m.st⟩) : dSet i t E m := h _ hu
theorem ev_lst1 (ha : Ev t m x) : Ev (dLst (dCons t dNil)) m (.lst [x]) := fun K h => ha _ ⟨lineN rfl, h⟩
end
section
variable {st : List Cell} {Q : Vl → List Cell → Prop} {l : List Nat}
end
end X
end PG

set_option maxRecDepth 100000
set_option maxHeartbeats 400000

namespace PG
open PySem PySem.Spec PyProof.Rows L2 RT S
namespace X
inductive St where
  | elem | one | power | center | lower | upper | fin | lens | stop | low | bad
  deriving DecidableEq
def isWait : St → Bool
  | .elem | .one | .power | .center | .lower | .upper => true
  | _ => false
def isNumS : St → Bool
  | .one | .power | .center | .lower | .upper => true
  | _ => false
def after : St → St
  | .one => .fin | .power => .lens | .center => .fin | .lower => .low | .upper => .fin | _ => .bad
def nextE (w : List Nat) : St := if w = wGap ∨ w = wPrism ∨ w = wAfocal then .one else if w = wLens then .power else if w = wStop then .stop else .bad
def nextF (s : St) (w : List Nat) : St := if w = [59] then .elem else if s = .lens ∧ w = wAt then .center else if s = .stop ∧ w = wFrom then .lower else if (s = .stop ∨ s = .low) ∧ w = wTo then .upper else .bad
def nextS (s : St) (w : List Nat) : St := if s = .elem then nextE w else if isNumS s = true then (if (fracF w).isSome = true then after s else .bad) else nextF s w
def run : St → List (List Nat) → Nat → Int
  | s, [], _ => if isWait s = true then -1 else 0
  | s, w :: r, k => if nextS s w = .bad then ((k + 1 : Nat) : Int) else run (nextS s w) r (k + 1)
def dueN (T : List (List Nat)) : Int := if T = [] then 0 else run .elem T 0
def errI : Perr → Int
  | .endE => -1
  | .tok p => (p : Int)
def toldN (T : List (List Nat)) : Int := match pTrain T with
  | .error e => errI e
  | .ok _ => 0
theorem drop_get {T : List (List Nat)} {p : Nat} {w : List Nat} (h : T[p]? = some w) : T.drop p = w :: T.drop (p + 1) := by
  have hk : p < T.length := (List.getElem?_eq_some_iff.mp h).1
  rw [List.drop_eq_getElem_cons hk]
  congr 1
  exact (List.getElem?_eq_some_iff.mp h).2
theorem drop_none {T : List (List Nat)} {p : Nat} (h : T[p]? = none) : T.drop p = [] := List.drop_of_length_le (List.getElem?_eq_none_iff.mp h)
def Ag {α : Type} (T : List (List Nat)) (s : St) (p : Nat) (P : Except Perr (α × Nat)) (s' : St) : Prop := match P with
  | .error e => run s (T.drop p) p = errI e
  | .ok (_, q) => run s (T.drop p) p = run s' (T.drop q) q
theorem run_cons {s : St} {w : List Nat} {r : List (List Nat)} {k : Nat} (h : nextS s w ≠ .bad) : run s (w :: r) k = run (nextS s w) r (k + 1) := if_neg h
theorem run_bad {s : St} {w : List Nat} {r : List (List Nat)} {k : Nat} (h : nextS s w = .bad) : run s (w :: r) k = ((k + 1 : Nat) : Int) := if_pos h
theorem pNum_ag {T : List (List Nat)} {p : Nat} {s : St} (hs : isNumS s = true) : Ag T s p (pNum T p) (after s) := by
  have hw : isWait s = true := by cases s <;> first | rfl | cases hs
  have he : s ≠ .elem := by rintro rfl; cases hs
  have ha : after s ≠ .bad := by cases s <;> first | decide | cases hs
  have hn : ∀ w, nextS s w = if (fracF w).isSome = true then after s else .bad := fun w => by
    unfold nextS
    rw [if_neg he, if_pos hs]
  unfold pNum
  cases h : T[p]? with
  | none =>
    show run s (T.drop p) p = -1
    rw [drop_none h]
    exact if_pos hw
  | some w =>
    have hd := drop_get h
    dsimp only
    cases hf : fracF w with
    | none =>
      show run s (T.drop p) p = ((p + 1 : Nat) : Int)
      rw [hd]
      exact run_bad (by rw [hn, hf]; rfl)
    | some x =>
      have e : nextS s w = after s := by
        rw [hn, hf]
        rfl
      show run s (T.drop p) p = run (after s) (T.drop (p + 1)) (p + 1)
      rw [hd, run_cons (by rw [e]; exact ha), e]
theorem run_opt {s s' : St} {w : List Nat} (h0 : run s [] 0 = run s' [] 0) (h : ∀ v, v ≠ w → nextS s v = nextS s' v) (R : List (List Nat)) (k : Nat) (hR : R[0]? ≠ some w) : run s R k = run s' R k := by
  cases R with
  | nil => exact h0
  | cons v r =>
    have : v ≠ w := fun e => hR (by rw [e]; rfl)
    show (if nextS s v = .bad then _ else _) = if nextS s' v = .bad then _ else _
    rw [h v this]
theorem pOpt_ag {T : List (List Nat)} {p : Nat} {s s1 s' : St} {w : List Nat} (h1 : nextS s w = s1) (hs : isNumS s1 = true) (ha : after s1 = s') (h0 : run s [] 0 = run s' [] 0) (h : ∀ v, v ≠ w → nextS s v = nextS s' v) : Ag T s p (pOpt T p w) s' := by
  unfold pOpt
  by_cases c : T[p]? = some w
  · rw [if_pos c]
    have hd := drop_get c
    have hb : nextS s w ≠ .bad := by
      rw [h1]
      rintro rfl
      cases hs
    have e : run s (T.drop p) p = run s1 (T.drop (p + 1)) (p + 1) := by
      rw [hd, run_cons hb, h1]
    have hn := pNum_ag (T := T) (p := p + 1) hs
    cases hp : pNum T (p + 1) with
    | error e' =>
      rw [hp] at hn
      exact e.trans hn
    | ok v =>
      rw [hp] at hn
      obtain ⟨x, q⟩ := v
      rw [ha] at hn
      exact e.trans hn
  · rw [if_neg c]
    refine run_opt h0 h _ _ ?_
    rw [List.getElem?_drop]
    exact c
theorem fin_s {s : St} (h1 : s ≠ .elem) (h2 : isNumS s = false) (w : List Nat) : nextS s w = nextF s w := by
  unfold nextS
  rw [if_neg h1, h2, if_neg (by decide)]
theorem ag_at {T : List (List Nat)} {p : Nat} : Ag T .lens p (pOpt T p wAt) .fin := pOpt_ag (s1 := .center) (by decide +kernel) rfl rfl rfl fun v hv => by
  rw [fin_s (by decide) rfl, fin_s (by decide) rfl]
  unfold nextF
  simp [hv]
theorem ag_from {T : List (List Nat)} {p : Nat} : Ag T .stop p (pOpt T p wFrom) .low := pOpt_ag (s1 := .lower) (by decide +kernel) rfl rfl rfl fun v hv => by
  rw [fin_s (by decide) rfl, fin_s (by decide) rfl]
  unfold nextF
  simp [hv]
theorem ag_to {T : List (List Nat)} {p : Nat} : Ag T .low p (pOpt T p wTo) .fin := pOpt_ag (s1 := .upper) (by decide +kernel) rfl rfl rfl fun v hv => by
  rw [fin_s (by decide) rfl, fin_s (by decide) rfl]
  unfold nextF
  simp [hv]
theorem ag_stop {T : List (List Nat)} {p : Nat} : Ag T .stop p (pStop T p) .fin := by
  unfold pStop
  have h1 := ag_from (T := T) (p := p)
  cases e1 : pOpt T p wFrom with
  | error e =>
    rw [e1] at h1
    exact h1
  | ok v =>
    obtain ⟨a, p1⟩ := v
    rw [e1] at h1
    dsimp only
    have h2 := ag_to (T := T) (p := p1)
    cases e2 : pOpt T p1 wTo with
    | error e =>
      rw [e2] at h2
      exact h1.trans h2
    | ok v =>
      obtain ⟨b, p2⟩ := v
      rw [e2] at h2
      exact h1.trans h2
theorem ag_elem {T : List (List Nat)} {p : Nat} : Ag T .elem p (pElem T p) .fin := by
  unfold pElem
  cases h : T[p]? with
  | none =>
    show run .elem (T.drop p) p = -1
    rw [drop_none h]
    rfl
  | some w =>
    have hd := drop_get h
    have hn : nextS .elem w = nextE w := if_pos rfl
    dsimp only
    have go : ∀ s', nextE w = s' → s' ≠ .bad → run .elem (T.drop p) p = run s' (T.drop (p + 1)) (p + 1) := fun s' e hb => by
      rw [hd, run_cons (by rw [hn, e]; exact hb), hn, e]
    by_cases c : w ∈ wordsL
    · rw [if_pos c]
      by_cases c1 : w = wStop
      · rw [if_pos c1]
        have e := go .stop (by rw [c1]; decide +kernel) (by decide)
        have hs := ag_stop (T := T) (p := p + 1)
        cases e2 : pStop T (p + 1) with
        | error x =>
          rw [e2] at hs
          exact e.trans hs
        | ok v =>
          obtain ⟨x, q⟩ := v
          rw [e2] at hs
          exact e.trans hs
      · rw [if_neg c1]
        by_cases c2 : w = wLens
        · have e := go .power (by rw [c2]; decide +kernel) (by decide)
          have hs := pNum_ag (T := T) (p := p + 1) (s := .power) rfl
          cases e2 : pNum T (p + 1) with
          | error x =>
            rw [e2] at hs
            exact e.trans hs
          | ok v =>
            obtain ⟨x, q⟩ := v
            rw [e2] at hs
            dsimp only
            rw [if_pos c2]
            have h3 := ag_at (T := T) (p := q)
            cases e3 : pOpt T q wAt with
            | error x =>
              rw [e3] at h3
              exact e.trans (hs.trans h3)
            | ok v =>
              obtain ⟨y, q2⟩ := v
              rw [e3] at h3
              exact e.trans (hs.trans h3)
        · have c3 : w = wGap ∨ w = wPrism ∨ w = wAfocal := by
            unfold wordsL at c
            simp only [List.mem_cons, List.not_mem_nil, or_false] at c
            rcases c with c | c | c | c | c
            · exact .inl c
            · exact absurd c c2
            · exact .inr (.inl c)
            · exact .inr (.inr c)
            · exact absurd c c1
          have e := go .one (if_pos c3) (by decide)
          have hs := pNum_ag (T := T) (p := p + 1) (s := .one) rfl
          cases e2 : pNum T (p + 1) with
          | error x =>
            rw [e2] at hs
            exact e.trans hs
          | ok v =>
            obtain ⟨x, q⟩ := v
            rw [e2] at hs
            dsimp only
            rw [if_neg c2]
            exact e.trans hs
    · rw [if_neg c]
      show run .elem (T.drop p) p = ((p + 1 : Nat) : Int)
      rw [hd]
      refine run_bad ?_
      rw [hn]
      unfold nextE
      unfold wordsL at c
      simp only [List.mem_cons, List.not_mem_nil, or_false, not_or] at c
      rw [if_neg (fun e => by rcases e with e | e | e; exact c.1 e; exact c.2.2.1 e; exact c.2.2.2.1 e), if_neg c.2.1, if_neg c.2.2.2.2]
theorem ag_rest {T : List (List Nat)} : ∀ (n : Nat) (acc : List El) (p : Nat), p ≤ T.length → T.length < n + p → (match pRest T n acc p with
    | .error e => run .fin (T.drop p) p = errI e
    | .ok _ => run .fin (T.drop p) p = 0)
  | 0, acc, p, hp, hn => by omega
  | n + 1, acc, p, hp, hn => by
    unfold pRest
    by_cases c : p < T.length
    · rw [if_pos c]
      have hg : T[p]? = some T[p] := List.getElem?_eq_getElem c
      have hd := drop_get hg
      by_cases c2 : T[p]? = some [59]
      · rw [if_pos c2]
        have hd := drop_get c2
        have e : run .fin (T.drop p) p = run .elem (T.drop (p + 1)) (p + 1) := by
          rw [hd, run_cons (by decide +kernel)]
          rfl
        have h2 := ag_elem (T := T) (p := p + 1)
        cases e2 : pElem T (p + 1) with
        | error x =>
          rw [e2] at h2
          exact e.trans h2
        | ok v =>
          obtain ⟨x, q⟩ := v
          rw [e2] at h2
          have l := pElem_le e2
          dsimp only
          have r := ag_rest n (acc ++ [x]) q l.1 (by omega)
          cases e3 : pRest T n (acc ++ [x]) q with
          | error y =>
            rw [e3] at r
            exact e.trans (h2.trans r)
          | ok y =>
            rw [e3] at r
            exact e.trans (h2.trans r)
      · rw [if_neg c2]
        show run .fin (T.drop p) p = ((p + 1 : Nat) : Int)
        rw [hd]
        refine run_bad ?_
        have : T[p] ≠ [59] := fun e => c2 (by rw [hg, e])
        rw [fin_s (by decide) rfl]
        unfold nextF
        rw [if_neg this, if_neg (fun e => by cases e.1), if_neg (fun e => by cases e.1), if_neg (fun e => by rcases e.1 with e | e <;> cases e)]
    · rw [if_neg c]
      show run .fin (T.drop p) p = 0
      rw [List.drop_of_length_le (by omega)]
      rfl
theorem due_told (T : List (List Nat)) : dueN T = toldN T := by
  unfold dueN toldN pTrain
  by_cases c : T = []
  · rw [if_pos c, if_pos c]
  rw [if_neg c, if_neg c]
  have h := ag_elem (T := T) (p := 0)
  cases e : pElem T 0 with
  | error x =>
    rw [e] at h
    exact h
  | ok v =>
    obtain ⟨x, p⟩ := v
    rw [e] at h
    have l := pElem_le e
    dsimp only
    have r := ag_rest (T := T) (T.length + 1) [x] p l.1 (by omega)
    have h : run .elem T 0 = run .fin (T.drop p) p := h
    cases e3 : pRest T (T.length + 1) [x] p with
    | error y =>
      rw [e3] at r
      exact h.trans r
    | ok y =>
      rw [e3] at r
      exact h.trans r
end X
end PG

set_option maxRecDepth 100000
set_option maxHeartbeats 400000

namespace PG
open PySem PySem.Spec PyProof.Rows L2 RT S
namespace X
def w1e6 : List Nat := [49, 48, 48, 48, 48, 48, 48]
def figB (p : List Nat) : Bool := !(decide (p = []) || decide (p.head? = some 48)) && (p.all isDig && (decide (p.length < 7) || decide (p = w1e6)))
def numB (w : List Nat) : Bool := decide (w = [48]) || (decide ((partsF w).length ≤ 2) && (partsF w).all figB)
theorem ev_lenw {t : DE} {m : M} {w : List Nat} (hl : w.length ≤ 100000) (h : Ev t m (wD w)) : Ev (dBi bLen (dCons t dNil)) m (.int (w.length : Nat)) := ev_bi (x := wD w) (fun P hP => by
  show (Sx w).length ≤ sizeLine ∧ P (.int ((Sx w).length : Nat))
  rw [SX.S_len]
  exact ⟨Nat.le_of_lt (small_lt (by omega)), hP⟩) h
theorem ev_eqn {t u : DE} {m : M} {i j : Nat} (h1 : Ev t m (.int i)) (h2 : Ev u m (.int j)) : Ev (dOp RT.rEq t u) m (.bl (decide (i = j))) := by
  have := ev_eqi h1 h2
  rw [show decide ((i : Int) = (j : Int)) = decide (i = j) from decide_eq_decide.mpr (by omega)] at this
  exact this
theorem ev_ltn {t u : DE} {m : M} {i j : Nat} (h1 : Ev t m (.int i)) (h2 : Ev u m (.int j)) : Ev (dOp RT.rLt t u) m (.bl (decide (i < j))) := ev_op (x := .int i) (y := .int j) (fun P hP => ⟨trivial, by
  show P (.bl (decide ((i : Int) < (j : Int))))
  rw [show decide ((i : Int) < (j : Int)) = decide (i < j) from decide_eq_decide.mpr (by omega)]
  exact hP⟩) h1 h2
theorem ev_gtn' {t u : DE} {m : M} {i j : Nat} (h1 : Ev t m (.int i)) (h2 : Ev u m (.int j)) : Ev (dOp RT.rGt t u) m (.bl (decide (j < i))) := by
  have := ev_gti h1 h2
  rw [show decide ((j : Int) < (i : Int)) = decide (j < i) from decide_eq_decide.mpr (by omega)] at this
  exact this
theorem ev_ch {t u : DE} {m : M} {c : Nat} {r : List Nat} (hl : (c :: r).length ≤ 100000) (h : Ev t m (wD (c :: r))) (hu : Ev u m (.int 0)) : Ev (dOp RT.rIx t u) m (wD [c]) := ev_op (x := wD (c :: r)) (y := .int 0) (fun P hP => by
  show (Sx (c :: r)).length ≤ sizeLine ∧ onO (atI (c :: r) 0) _
  rw [SX.S_len, at0g]
  exact ⟨Nat.le_of_lt (small_lt (by omega)), hP⟩) h hu
theorem fig_s : Str.ofString "0123456789" = Sx [48, 49, 50, 51, 52, 53, 54, 55, 56, 57] := by decide +kernel
section
variable {st : List Cell} {Q : Vl → List Cell → Prop}
theorem figures_ok {p : List Nat} (hl : p.length ≤ 100000) (hc : Asc p) (h : Q (.d (.bl (figB p))) st) : sp__law_figures [.d (wD p)] st Q := by
  unfold sp__law_figures
  refine ⟨rfl, ?_⟩
  let m : M := ⟨[some (.d (wD p)), none], st⟩
  have vp : Ev (dVar 0) m (wD p) := ev_var rfl
  have t1 : Tv (dOr (dTest (dOp RT.rEq (dBi bLen (dCons (dVar 0) dNil)) (dC (.int 0)))) (dTest (dOp RT.rEq (dOp RT.rIx (dVar 0) (dC (.int 0))) (dC (.str ("0" : Str)))))) m (decide (p = []) || decide (p.head? = some 48)) := by
    have e0 : decide (p.length = 0) = decide (p = []) := decide_eq_decide.mpr List.length_eq_zero_iff
    refine tv_or2 (e0 ▸ tv_test (ev_eqn (ev_lenw hl vp) (ev_c (.int (0 : Nat))))) fun hp => ?_
    cases p with
    | nil => cases hp
    | cons c r =>
      have e1 : decide ((c :: r).head? = some 48) = decide ([c] = [48]) := decide_eq_decide.mpr (by simp)
      rw [e1]
      exact tv_test (ev_eqw (asc_one (hc c List.mem_cons_self)) (asc_one (by decide)) (ev_ch hl vp (ev_c _)) (ev_w sx_0))
  unfold figB at h
  by_cases c1 : (decide (p = []) || decide (p.head? = some 48)) = true
  · rw [c1] at t1 h
    exact ifs_t' m t1 (ret_evK (ev_c _) (tk h))
  have c1 : (decide (p = []) || decide (p.head? = some 48)) = false := by simpa using c1
  rw [c1] at t1 h
  refine guard_st m t1 ?_
  have h : Q (.d (.bl (p.all isDig && (decide (p.length < 7) || decide (p = w1e6))))) st := h
  refine seq_mid (fun m => p.all isDig = true ∧ ∃ z, m = ⟨[some (.d (wD p)), z], st⟩) (fun K hK => ?_) ?_
  · unfold dFor dSgn dVar
    show dLoop (.nm 1) _ (RT.signs (Sx p)) none _ (RT.signs (Sx p)) _
    rw [signs_Sx]
    refine each_inv (lk := none) (fun c => wD [c]) (fun r m => (r.all isDig = p.all isDig) ∧ ∃ z, m = ⟨[some (.d (wD p)), z], st⟩) (fun _ _ _ => trivial) ?_ ?_ _ _ ⟨rfl, none, rfl⟩
    · rintro x r _ K' hK' ⟨hr, z, rfl⟩
      have ti : Ev (dOp (rInS true) (dVar 1) (dC (.str ("0123456789" : Str)))) ⟨[some (.d (wD p)), some (.d (wD [x]))], st⟩ (.bl (!isDig x)) := ev_op (x := wD [x]) (y := wD [48, 49, 50, 51, 52, 53, 54, 55, 56, 57]) (fun P hP => by
        show P (.bl (!(!(Builtin.Str.occurrences (SX.S [48, 49, 50, 51, 52, 53, 54, 55, 56, 57]) (SX.S [x]) 0 (SX.S [48, 49, 50, 51, 52, 53, 54, 55, 56, 57]).length 1).isEmpty)))
        rw [SX.in_one]
        have e : decide (x ∈ [48, 49, 50, 51, 52, 53, 54, 55, 56, 57]) = isDig x := by
          unfold isDig
          rw [← Bool.decide_and]
          exact decide_eq_decide.mpr (by simp; omega)
        rw [e]
        exact hP) (ev_var rfl) (ev_w fig_s)
      rw [List.all_cons] at hr
      cases hd : isDig x with
      | true =>
        rw [hd] at ti hr
        exact difs_no (tv_test ti) (hK' _ ⟨hr, _, rfl⟩)
      | false =>
        rw [hd] at ti hr
        refine difs_yes (tv_test ti) (ret_evK (ev_c _) ?_)
        have hr : p.all isDig = false := hr.symm
        rw [hr] at h
        exact tk h
    · rintro _ ⟨hr, z, rfl⟩
      exact hK _ ⟨hr.symm, z, rfl⟩
  · rintro _ ⟨hd, z, rfl⟩
    rw [hd, Bool.true_and] at h
    exact ret_evK (ev_orV (ev_ltn (ev_lenw hl (ev_var rfl)) (ev_c (.int (7 : Nat)))) (fun _ => ev_eqw hc (by unfold Asc; decide) (ev_var rfl) (ev_w (w := w1e6) (by decide +kernel)))) (tk h)
theorem isnum_ok {l : List Nat} (hl : l.length ≤ 10000) (hc : Asc l) (h : Q (.d (.bl (numB l))) st) : sp__law_is_number [.d (wD l)] st Q := by
  unfold sp__law_is_number
  refine ⟨rfl, ?_⟩
  unfold numB at h
  let m : M := ⟨[some (.d (wD l)), none, none], st⟩
  have t1 := tv_test (ev_eqw (m := m) (t := dVar 0) hc (asc_one (c := 48) (by decide)) (ev_var rfl) (ev_w sx_0))
  by_cases c0 : l = [48]
  · rw [decide_eq_true c0] at t1 h
    exact ifs_t' m t1 (ret_evK (ev_c _) (tk h))
  rw [decide_eq_false c0] at t1 h
  rw [Bool.false_or] at h
  refine guard_st m t1 ?_
  obtain ⟨u, hu⟩ : ∃ u, (if l.take 1 = [45] then l.drop 1 else l) = u := ⟨_, rfl⟩
  have hua : Asc u ∧ u.length ≤ l.length := by
    rw [← hu]
    split
    · exact ⟨fun x hx => hc x (List.mem_of_mem_drop hx), by rw [List.length_drop]; omega⟩
    · exact ⟨hc, Nat.le_refl _⟩
  have sl1 : Ev (dSlS (dVar 0) dNoP (dPart (dC (.int 1)))) m (wD (l.take 1)) := fun K hK => by
    show (Sx l).length ≤ sizeLine ∧ K (.d (.str (cutS (Sx l) none (some 1)))) m
    rw [SX.S_len, C8.cutS_slice, SX.slice_to (by decide)]
    exact ⟨Nat.le_of_lt (small_lt (by omega)), hK⟩
  have sl2 : Ev (dSlS (dVar 0) (dPart (dC (.int 1))) dNoP) m (wD (l.drop 1)) := fun K hK => by
    show (Sx l).length ≤ sizeLine ∧ K (.d (.str (cutS (Sx l) (some 1) none))) m
    rw [SX.S_len, C8.cutS_slice, SX.slice_from (by decide)]
    exact ⟨Nat.le_of_lt (small_lt (by omega)), hK⟩
  have t2 := tv_test (ev_eqw (fun x hx => hc x (List.mem_of_mem_take hx)) (asc_one (c := 45) (by decide)) sl1 (ev_w sx_mi))
  refine seq_to ⟨[some (.d (wD u)), none, none], st⟩ (fun K hK => ?_) ?_
  · by_cases c : l.take 1 = [45]
    · rw [decide_eq_true c] at t2
      rw [if_pos c] at hu
      rw [← hu] at hK
      exact difs_yes t2 (set_ev sl2 hK)
    · rw [decide_eq_false c] at t2
      rw [if_neg c] at hu
      rw [← hu] at hK
      exact difs_no t2 hK
  have hpe : partsF l = TL.spl [47] 0 [] u := by
    unfold partsF
    rw [hu]
  obtain ⟨P, hP⟩ : ∃ P, partsF l = P := ⟨_, rfl⟩
  rw [hP] at h hpe
  have hPm : ∀ p ∈ P, Asc p ∧ p.length ≤ 100000 := fun p hp => by
    rw [hpe] at hp
    obtain ⟨a, b⟩ := spl_mem u [] asc_nil hua.1 p hp
    rw [List.length_nil] at b
    exact ⟨a, by omega⟩
  let D : Option Vl := some (.d (.lst (P.map wD)))
  refine seq_to ⟨[some (.d (wD u)), D, none], st⟩ (fun K hK => ?_) ?_
  · show (("/" : Str).length == 0) = false ∧ (Sx u).length + 2 ≤ sizeLine ∧ _
    rw [sx_sl, SX.S_len, SX.S_len, SX.split_S (List.cons_ne_nil _ _) (by decide), ← hpe, List.map_map]
    exact ⟨rfl, Nat.le_of_lt (small_lt (by omega)), hK⟩
  let m2 : M := ⟨[some (.d (wD u)), D, none], st⟩
  have ln : Ev (dBi bLen (dCons (dVar 1) dNil)) m2 (.int (P.length : Nat)) := ev_bi (x := .lst (P.map wD)) (fun C hC => by
    show C (.int ((P.map wD).length : Nat))
    rw [List.length_map]
    exact hC) (ev_var rfl)
  have t3 := tv_test (ev_gtn' ln (ev_c (.int (2 : Nat))))
  by_cases c2 : 2 < P.length
  · rw [decide_eq_true c2] at t3
    rw [decide_eq_false (by omega)] at h
    exact ifs_t' m2 t3 (ret_evK (ev_c _) (tk h))
  rw [decide_eq_false c2] at t3
  rw [decide_eq_true (by omega), Bool.true_and] at h
  refine guard_st m2 t3 ?_
  refine seq_mid (fun m => P.all figB = true ∧ m.st = st) (fun K hK => ?_) ?_
  · show dLoop (.nm 2) _ (P.map wD) none _ (P.map wD) _
    refine each_inv (lk := none) wD (fun r m => (r.all figB = P.all figB) ∧ (∀ p ∈ r, p ∈ P) ∧ ∃ z, m = ⟨[some (.d (wD u)), D, z], st⟩) (fun _ _ _ => trivial) ?_ ?_ _ _ ⟨rfl, (fun p hp => hp), none, rfl⟩
    · rintro x r _ K' hK' ⟨hr, hm, z, rfl⟩
      obtain ⟨xa, xl⟩ := hPm x (hm x List.mem_cons_self)
      have tf : Tv (dNot (dTru (dCall PG.sp__law_figures [] (dCons (dVar 2) dNil)))) ⟨[some (.d (wD u)), D, some (.d (wD x))], st⟩ (!figB x) := tv_not (fun K hK => figures_ok xl xa hK)
      rw [List.all_cons] at hr
      cases hd : figB x with
      | true =>
        rw [hd] at tf hr
        exact difs_no tf (hK' _ ⟨hr, fun p hp => hm p (List.mem_cons_of_mem _ hp), _, rfl⟩)
      | false =>
        rw [hd] at tf hr
        refine difs_yes tf (ret_evK (ev_c _) ?_)
        have hr : P.all figB = false := hr.symm
        rw [hr] at h
        exact tk h
    · rintro _ ⟨hr, _, z, rfl⟩
      exact hK _ ⟨hr.symm, rfl⟩
  · rintro m ⟨hd, hs⟩
    rw [hd] at h
    refine ret_evK (ev_c _) ?_
    show Q _ (m.st.take st.length)
    rw [hs]
    exact tk h
end
def bank : List (List Nat) := [";", "gap", "lens", "prism", "afocal", "stop", "from", "to", "at", "1", "-2/3", "0", "1000000", "00", "-0", "+1", "1/0", "1/", "2/3/4", "1000001", "Gap", "0/5", "-", "x", "2", "-1"].map fun s => s.toList.map Char.toNat
theorem bank_num : ∀ w ∈ bank, numB w = (fracF w).isSome := by decide +kernel
end X
end PG

set_option maxRecDepth 100000
set_option maxHeartbeats 400000

namespace PG
open PySem PySem.Spec PyProof.Rows L2 RT S
namespace X
theorem ev_dlit' {kvs : List (Str × Dt)} {t : DE} {m : M} {s : Str} {d : Dt} (h : Ev t m (.str s)) (hk : kvs.lookup s = some d) : Ev (dDlit kvs t) m d := fun K hK => h _ ⟨d, hk, hK⟩
theorem asc59' : Asc [59] := by unfold Asc; decide
def stW : St → List Nat
  | .elem => [101, 108, 101, 109, 101, 110, 116] | .one => [111, 110, 101] | .power => [112, 111, 119, 101, 114] | .center => [99, 101, 110, 116, 101, 114]
  | .lower => [108, 111, 119, 101, 114] | .upper => [117, 112, 112, 101, 114] | .fin => [101, 110, 100] | .lens => wLens | .stop => wStop | .low => [108, 111, 119] | .bad => []
theorem stW_asc (s : St) : Asc (stW s) := by cases s <;> (unfold Asc; decide)
theorem stW_inj : ∀ {a b : St}, stW a = stW b → a = b := fun {a b} => by cases a <;> cases b <;> first | (intro _; rfl) | (intro h; revert h; decide)
theorem l_elem : Str.ofString "element" = Sx (stW .elem) := by decide +kernel
theorem l_one : Str.ofString "one" = Sx (stW .one) := by decide +kernel
theorem l_power : Str.ofString "power" = Sx (stW .power) := by decide +kernel
theorem l_center : Str.ofString "center" = Sx (stW .center) := by decide +kernel
theorem l_lower : Str.ofString "lower" = Sx (stW .lower) := by decide +kernel
theorem l_upper : Str.ofString "upper" = Sx (stW .upper) := by decide +kernel
theorem l_end : Str.ofString "end" = Sx (stW .fin) := by decide +kernel
theorem l_lens : Str.ofString "lens" = Sx (stW .lens) := by decide +kernel
theorem l_stop : Str.ofString "stop" = Sx (stW .stop) := by decide +kernel
theorem l_low : Str.ofString "low" = Sx (stW .low) := by decide +kernel
theorem l_bad : Str.ofString "" = Sx (stW .bad) := by decide +kernel
theorem beq_w {w v : List Nat} : (Sx w == Sx v) = decide (w = v) := by
  rw [Bool.eq_iff_iff, decide_eq_true_iff, beq_iff_eq]
  exact ⟨SX.S_inj, fun h => by rw [h]⟩
theorem shW_ (l : List (List Nat)) (h : ∀ w ∈ l, Asc w) : shD (.lst (l.map wD)) := sh_ok (n := 1) (sh_lst (all_map fun w hw => sh_str (by
  show PySem.PyData.strOk (Sx w) = true
  unfold PySem.PyData.strOk
  rw [← Array.all_toList, List.all_eq_true]
  intro c hc
  exact decide_eq_true (Nat.lt_trans (h w hw c hc) (by decide)))))
theorem ev_inw {t : DE} {m : M} {w : List Nat} {u : DE} {l : List (List Nat)} (hw : Asc w) (hl : ∀ v ∈ l, Asc v) (h1 : Ev t m (wD w)) (h2 : Ev u m (.lst (l.map wD))) : Ev (dOp (rIn false) t u) m (.bl (decide (w ∈ l))) := ev_op (x := wD w) (y := .lst (l.map wD)) (fun P hP => ⟨sh_w hw, shW_ l hl, by
  show P (.bl ((l.map wD).any fun z => eqD z (wD w)))
  rw [any_w]
  exact hP⟩) h1 h2
theorem ev_st {m : M} {s : String} {x : St} (h : Str.ofString s = Sx (stW x)) : Ev (dC (.str (Str.ofString s))) m (wD (stW x)) := ev_w h
section
variable {st : List Cell} {Q : Vl → List Cell → Prop}
def kvE : List (Str × Dt) := [(("gap" : Str), .str ("one" : Str)), (("prism" : Str), .str ("one" : Str)), (("afocal" : Str), .str ("one" : Str)), (("lens" : Str), .str ("power" : Str)), (("stop" : Str), .str ("stop" : Str))]
theorem kvE_w (w : List Nat) : (match kvE.lookup (Sx w) with
  | some d => d
  | none => wD (stW .bad)) = wD (stW (nextE w)) := by
  unfold kvE nextE
  rw [show ("gap" : Str) = Sx wGap by decide +kernel, show ("prism" : Str) = Sx wPrism by decide +kernel, show ("afocal" : Str) = Sx wAfocal by decide +kernel, show ("lens" : Str) = Sx wLens by decide +kernel, show ("stop" : Str) = Sx wStop by decide +kernel, show ("one" : Str) = Sx (stW .one) from l_one, show ("power" : Str) = Sx (stW .power) from l_power]
  simp only [List.lookup_cons, beq_w]
  by_cases c1 : w = wGap
  · rw [decide_eq_true c1, if_pos (.inl c1)]
    rfl
  rw [decide_eq_false c1]
  by_cases c2 : w = wPrism
  · rw [decide_eq_true c2, if_pos (.inr (.inl c2))]
    rfl
  rw [decide_eq_false c2]
  by_cases c3 : w = wAfocal
  · rw [decide_eq_true c3, if_pos (.inr (.inr c3))]
    rfl
  rw [decide_eq_false c3, if_neg (fun e => by rcases e with e | e | e; exact c1 e; exact c2 e; exact c3 e)]
  by_cases c4 : w = wLens
  · rw [decide_eq_true c4, if_pos c4]
    rfl
  rw [decide_eq_false c4, if_neg c4]
  by_cases c5 : w = wStop
  · rw [decide_eq_true c5, if_pos c5]
    rfl
  rw [decide_eq_false c5, if_neg c5]
  rfl
def kvN : List (Str × Dt) := [(("one" : Str), .str ("end" : Str)), (("power" : Str), .str ("lens" : Str)), (("center" : Str), .str ("end" : Str)), (("lower" : Str), .str ("low" : Str)), (("upper" : Str), .str ("end" : Str))]
theorem kvN_w {s : St} (h : isNumS s = true) : kvN.lookup (Sx (stW s)) = some (wD (stW (after s))) := by
  unfold kvN
  rw [show ("one" : Str) = Sx (stW .one) from l_one, show ("power" : Str) = Sx (stW .power) from l_power, show ("center" : Str) = Sx (stW .center) from l_center, show ("lower" : Str) = Sx (stW .lower) from l_lower, show ("upper" : Str) = Sx (stW .upper) from l_upper, show ("end" : Str) = Sx (stW .fin) from l_end, show ("lens" : Str) = Sx (stW .lens) from l_lens, show ("low" : Str) = Sx (stW .low) from l_low]
  simp only [List.lookup_cons, beq_w]
  cases s <;> first | rfl | cases h
theorem next_ok {s : St} {w : List Nat} (hs : s ≠ .bad) (hl : w.length ≤ 10000) (hc : Asc w) (hn : numB w = (fracF w).isSome) (h : Q (.d (wD (stW (nextS s w)))) st) : sp__law_next [.d (wD (stW s)), .d (wD w)] st Q := by
  unfold sp__law_next
  refine ⟨rfl, ?_⟩
  let m : M := ⟨[some (.d (wD (stW s))), some (.d (wD w))], st⟩
  have vs : Ev (dVar 0) m (wD (stW s)) := ev_var rfl
  have vw : Ev (dVar 1) m (wD w) := ev_var rfl
  have es : ∀ x : St, decide (stW s = stW x) = decide (s = x) := fun x => decide_eq_decide.mpr ⟨fun e => stW_inj e, fun e => by rw [e]⟩
  have ts : ∀ {str : String} {x : St}, Str.ofString str = Sx (stW x) → Tv (dTest (dOp RT.rEq (dVar 0) (dC (.str (Str.ofString str))))) m (decide (s = x)) := fun {str x} hx => by
    rw [← es]
    exact tv_test (ev_eqw (stW_asc s) (stW_asc x) vs (ev_w hx))
  have tw : ∀ {str : String} {v : List Nat}, Str.ofString str = Sx v → Asc v → Tv (dTest (dOp RT.rEq (dVar 1) (dC (.str (Str.ofString str))))) m (decide (w = v)) := fun {str v} hv ha => tv_test (ev_eqw hc ha vw (ev_w hv))
  have ret : ∀ {str : String} {x : St}, Str.ofString str = Sx (stW x) → nextS s w = x → dRet (dC (.str (Str.ofString str))) (endsOf false st.length Q) m := fun {str x} hx e => ret_evK (ev_w hx) (by
    rw [e] at h
    exact tk h)
  have t0 := ts l_elem
  by_cases c0 : s = .elem
  · rw [decide_eq_true c0] at t0
    refine ifs_t' m t0 ?_
    refine ret_evK (x := wD (stW (nextS s w))) (fun K hK => ?_) (tk h)
    refine vw _ ?_
    show (match kvE.lookup (Sx w) with
      | some d => K (.d d) m
      | none => K (.d (.str ("" : Str))) m)
    have hk := kvE_w w
    have e : nextS s w = nextE w := if_pos c0
    rw [e, ← hk] at hK
    cases hL : kvE.lookup (Sx w) with
    | some d =>
      rw [hL] at hK
      exact hK
    | none =>
      rw [hL] at hK
      rw [show ("" : Str) = Sx (stW .bad) from l_bad]
      exact hK
  rw [decide_eq_false c0] at t0
  refine guard_st m t0 ?_
  have numL : Ev (dLst (dCons (dC (.str ("one" : Str))) (dCons (dC (.str ("power" : Str))) (dCons (dC (.str ("center" : Str))) (dCons (dC (.str ("lower" : Str))) (dCons (dC (.str ("upper" : Str))) dNil)))))) m (.lst ([stW .one, stW .power, stW .center, stW .lower, stW .upper].map wD)) := fun K hK => ⟨lineN rfl, by
    rw [show ("one" : Str) = Sx (stW .one) from l_one, show ("power" : Str) = Sx (stW .power) from l_power, show ("center" : Str) = Sx (stW .center) from l_center, show ("lower" : Str) = Sx (stW .lower) from l_lower, show ("upper" : Str) = Sx (stW .upper) from l_upper]
    exact hK⟩
  have t1 := tv_test (ev_inw (stW_asc s) (fun v hv => by
    simp only [List.mem_cons, List.not_mem_nil, or_false] at hv
    rcases hv with rfl | rfl | rfl | rfl | rfl <;> exact stW_asc _) vs numL)
  have e1 : decide (stW s ∈ [stW .one, stW .power, stW .center, stW .lower, stW .upper]) = isNumS s := by cases s <;> decide
  rw [e1] at t1
  by_cases c1 : isNumS s = true
  · rw [c1] at t1
    refine ifs_t' m t1 ?_
    have en : nextS s w = if (fracF w).isSome = true then after s else .bad := by
      unfold nextS
      rw [if_neg c0, if_pos c1]
    have tn : Tv (dNot (dTru (dCall PG.sp__law_is_number [] (dCons (dVar 1) dNil)))) m (!numB w) := tv_not (fun K hK => isnum_ok hl hc hK)
    rw [hn] at tn
    cases hf : (fracF w).isSome with
    | false =>
      rw [hf] at tn en
      refine ifs_t' m tn ?_
      exact ret l_bad en
    | true =>
      rw [hf] at tn en
      refine guard_st m tn ?_
      have en : nextS s w = after s := en
      rw [en] at h
      refine ret_evK (x := wD (stW (after s))) (ev_dlit' (s := Sx (stW s)) vs ?_) (tk h)
      exact kvN_w c1
  have c1 : isNumS s = false := by simpa using c1
  rw [c1] at t1
  refine guard_st m t1 ?_
  have en : nextS s w = nextF s w := fin_s c0 c1 w
  unfold nextF at en
  have t2 := tw sc_w asc59'
  by_cases c2 : w = [59]
  · rw [decide_eq_true c2] at t2
    rw [if_pos c2] at en
    exact ifs_t' m t2 (ret l_elem en)
  rw [decide_eq_false c2] at t2
  rw [if_neg c2] at en
  refine guard_st m t2 ?_
  have t3 := tv_and (ts l_lens) (fun _ => tw (v := wAt) (str := "at") (by decide +kernel) (by unfold Asc; decide))
  by_cases c3 : s = .lens ∧ w = wAt
  · rw [decide_eq_true c3.1, decide_eq_true c3.2] at t3
    rw [if_pos c3] at en
    exact ifs_t' m t3 (ret l_center en)
  rw [← Bool.decide_and, decide_eq_false c3] at t3
  rw [if_neg c3] at en
  refine guard_st m t3 ?_
  have t4 := tv_and (ts l_stop) (fun _ => tw (v := wFrom) (str := "from") (by decide +kernel) (by unfold Asc; decide))
  by_cases c4 : s = .stop ∧ w = wFrom
  · rw [decide_eq_true c4.1, decide_eq_true c4.2] at t4
    rw [if_pos c4] at en
    exact ifs_t' m t4 (ret l_lower en)
  rw [← Bool.decide_and, decide_eq_false c4] at t4
  rw [if_neg c4] at en
  refine guard_st m t4 ?_
  have twoL : Ev (dLst (dCons (dC (.str ("stop" : Str))) (dCons (dC (.str ("low" : Str))) dNil))) m (.lst ([stW .stop, stW .low].map wD)) := fun K hK => ⟨lineN rfl, by
    rw [show ("stop" : Str) = Sx (stW .stop) from l_stop, show ("low" : Str) = Sx (stW .low) from l_low]
    exact hK⟩
  have t5a := tv_test (ev_inw (stW_asc s) (fun v hv => by
    simp only [List.mem_cons, List.not_mem_nil, or_false] at hv
    rcases hv with rfl | rfl <;> exact stW_asc _) vs twoL)
  have e5 : decide (stW s ∈ [stW .stop, stW .low]) = decide (s = .stop ∨ s = .low) := by cases s <;> decide
  rw [e5] at t5a
  have t5 := tv_and t5a (fun _ => tw (v := wTo) (str := "to") (by decide +kernel) (by unfold Asc; decide))
  by_cases c5 : (s = .stop ∨ s = .low) ∧ w = wTo
  · rw [decide_eq_true c5.1, decide_eq_true c5.2] at t5
    rw [if_pos c5] at en
    exact ifs_t' m t5 (ret l_upper en)
  rw [← Bool.decide_and, decide_eq_false c5] at t5
  rw [if_neg c5] at en
  exact guard_st m t5 (ret l_bad en)
end
end X
end PG

set_option maxRecDepth 100000
set_option maxHeartbeats 400000

namespace PG
open PySem PySem.Spec PyProof.Rows L2 RT S
namespace X
theorem xtry_of' {b rest : DSO} {i : Nat} {hs : List (Str × XSu)} {Ex : EXO} {E : DOEnds} {m : M} {os : RT.OS}
    (h : b (fun x d m1 os1 => i < m1.sl.length ∧ ∃ t, (x, t) ∈ hs ∧ ∀ a bd : Addr,
  t a bd ((m1.st.length, .exc a ((fldOf x).map (bd, ·)) d) :: os1) ⟨fun m' => rest Ex E ⟨m'.sl.set i none, m'.st⟩ os1, fun v m' => E.rt v ⟨m'.sl.set i none, m'.st⟩ os1, fun m' => E.bk ⟨m'.sl.set i none, m'.st⟩ os1, fun m' => E.ct ⟨m'.sl.set i none, m'.st⟩ os1⟩
    ⟨m1.sl.set i (some (.c m1.st.length)), m1.st ++ [.dead]⟩) ⟨fun m1 os1 => rest Ex E m1 os1, E.rt, E.bk, E.ct⟩ m os) : xSeq (xTry b i hs) rest Ex E m os := h
theorem isx1 {m : M} {a bd : Addr} {x : Str} {d : Dt} {k : Nat} {os : RT.OS} (h : m.sl[1]? = some (some (.c k))) : IsX ((k, .exc a ((fldOf x).map (bd, ·)) d) :: os) 1 x a bd m := ⟨k, d, h, by simp⟩
theorem ev_call2 {sp : FSpec} {a b : DE} {m : M} {x y z : Dt} (hr : ∀ Q : Vl → List Cell → Prop, Q (.d z) m.st → sp [.d x, .d y] m.st Q) (ha : Ev a m x) (hb : Ev b m y) : Ev (dCall sp [] (dCons a (dCons b dNil))) m z := fun K h => ha _ (hb _ (hr _ h))
section
variable {st : List Cell} {Q : Vl → List Cell → Prop}
theorem due_ok {W : List (List Nat)} (hl : W.length ≤ 10000) (hW : ∀ w ∈ W, Asc w ∧ w.length ≤ 10000 ∧ numB w = (fracF w).isSome) (h : Q (.d (.int (dueN W))) st) : sp__law_due_7 [.d (.lst (W.map wD))] st Q := by
  unfold sp__law_due_7
  refine ⟨rfl, ?_⟩
  let D : Option Vl := some (.d (.lst (W.map wD)))
  let m : M := ⟨[D, none, none], st⟩
  have ln : Ev (dBi bLen (dCons (dVar 0) dNil)) m (.int (W.length : Nat)) := ev_bi (x := .lst (W.map wD)) (fun C hC => by
    show C (.int ((W.map wD).length : Nat))
    rw [List.length_map]
    exact hC) (ev_var rfl)
  have t0 := tv_test (ev_eqn ln (ev_c (.int (0 : Nat))))
  unfold dueN at h
  by_cases c0 : W = []
  · rw [decide_eq_true (by rw [c0]; rfl)] at t0
    rw [if_pos c0] at h
    exact ifs_t' m t0 (ret_evK (ev_c _) (tk h))
  rw [decide_eq_false (fun e => c0 (List.length_eq_zero_iff.mp e))] at t0
  rw [if_neg c0] at h
  refine guard_st m t0 ?_
  refine ev_set (ev_st l_elem) ?_
  obtain ⟨res, eres⟩ : ∃ res, run .elem W 0 = res := ⟨_, rfl⟩
  rw [eres] at h
  refine seq_mid (fun m => ∃ s z, s ≠ .bad ∧ run s [] W.length = res ∧ m = ⟨[D, some (.d (wD (stW s))), z], st⟩) (fun K hK => ?_) ?_
  · refine ⟨⟨by omega, by rw [List.length_map]; omega⟩, ?_⟩
    refine range_inv (fun n lo m => ∃ k : Nat, lo = (k : Int) ∧ k + n = W.length ∧ ∃ s z, s ≠ .bad ∧ run s (W.drop k) k = res ∧ m = ⟨[D, some (.d (wD (stW s))), z], st⟩) ?_ ?_ _ 0 _ ⟨0, rfl, ?_, .elem, none, by decide, eres, rfl⟩
    · rintro n _ _ K' hK' ⟨k, rfl, hn, s, z, hs, hr, rfl⟩
      have hk : k < W.length := by omega
      obtain ⟨w, hw⟩ : ∃ w, W[k]? = some w := ⟨W[k], List.getElem?_eq_getElem hk⟩
      obtain ⟨wa, wl, wn⟩ := hW w (List.mem_of_getElem? hw)
      have hd := drop_get hw
      rw [hd] at hr
      have vw : Ev (dOp RT.rIx (dVar 0) (dVar 2)) ⟨[D, some (.d (wD (stW s))), some (.d (.int k))], st⟩ (wD w) := ev_ix (ev_var (i := 0) rfl) (ev_var (i := 2) rfl) (atI_map hw)
      have cl : Ev (dCall PG.sp__law_next [] (dCons (dVar 1) (dCons (dOp RT.rIx (dVar 0) (dVar 2)) dNil))) ⟨[D, some (.d (wD (stW s))), some (.d (.int k))], st⟩ (wD (stW (nextS s w))) := ev_call2 (fun Q hQ => next_ok hs wl wa wn hQ) (ev_var rfl) vw
      refine ev_set cl ?_
      let m2 : M := ⟨[D, some (.d (wD (stW (nextS s w)))), some (.d (.int k))], st⟩
      have tb := tv_test (ev_eqw (m := m2) (t := dVar 1) (stW_asc (nextS s w)) (stW_asc .bad) (ev_var rfl) (ev_w l_bad))
      by_cases c : nextS s w = .bad
      · rw [decide_eq_true (by rw [c])] at tb
        rw [run_bad c] at hr
        refine difs_yes tb (ret_evK (x := .int ((k : Int) + 1)) (ev_addi (ev_var rfl) (ev_c _)) ?_)
        rw [← hr, Int.natCast_add] at h
        exact tk h
      · rw [decide_eq_false (fun e => c (stW_inj e))] at tb
        rw [run_cons c] at hr
        exact difs_no tb (hK' _ ⟨k + 1, by omega, by omega, nextS s w, _, c, hr, rfl⟩)
    · rintro _ _ ⟨k, rfl, hn, s, z, hs, hr, rfl⟩
      rw [List.drop_of_length_le (by omega), show k = W.length by omega] at hr
      exact hK _ ⟨s, z, hs, hr, rfl⟩
    · rw [List.length_map]
      show 0 + ((W.length : Int) - 0).toNat = _
      omega
  · rintro _ ⟨s, z, hs, hr, rfl⟩
    let m2 : M := ⟨[D, some (.d (wD (stW s))), z], st⟩
    have wl : Ev (dLst (dCons (dC (.str ("element" : Str))) (dCons (dC (.str ("one" : Str))) (dCons (dC (.str ("power" : Str))) (dCons (dC (.str ("center" : Str))) (dCons (dC (.str ("lower" : Str))) (dCons (dC (.str ("upper" : Str))) dNil))))))) m2 (.lst ([stW .elem, stW .one, stW .power, stW .center, stW .lower, stW .upper].map wD)) := fun K hK => ⟨lineN rfl, by
      rw [show ("element" : Str) = Sx (stW .elem) from l_elem, show ("one" : Str) = Sx (stW .one) from l_one, show ("power" : Str) = Sx (stW .power) from l_power, show ("center" : Str) = Sx (stW .center) from l_center, show ("lower" : Str) = Sx (stW .lower) from l_lower, show ("upper" : Str) = Sx (stW .upper) from l_upper]
      exact hK⟩
    have t1 := tv_test (ev_inw (t := dVar 1) (stW_asc s) (fun v hv => by
      simp only [List.mem_cons, List.not_mem_nil, or_false] at hv
      rcases hv with rfl | rfl | rfl | rfl | rfl | rfl <;> exact stW_asc _) (ev_var rfl) wl)
    have e1 : decide (stW s ∈ [stW .elem, stW .one, stW .power, stW .center, stW .lower, stW .upper]) = isWait s := by cases s <;> decide
    rw [e1] at t1
    have hr : (if isWait s = true then (-1 : Int) else 0) = res := hr
    by_cases c : isWait s = true
    · rw [c] at t1
      rw [if_pos c] at hr
      rw [← hr] at h
      exact ifs_t' m2 t1 (ret_evK (x := .int (-1)) (fun K hK => hK) (tk h))
    · rw [if_neg c] at hr
      have c : isWait s = false := by simpa using c
      rw [c] at t1
      rw [← hr] at h
      exact guard_st m2 t1 (ret_evK (ev_c _) (tk h))
theorem told_ok {l : List Nat} (hl : l.length ≤ 40000) (hc : Asc l) (h : Q (.d (.int (toldN (toksF l)))) st) : spBr false sp__law_told_2 [.d (wD l)] st Q := by
  unfold spBr sp__law_told_2
  refine ⟨rfl, ?_⟩
  refine xtry_of' ?_
  unfold toldN at h
  have ok0 : ∀ es, pTrain (toksF l) = .ok es → ∀ ys : List Cell, Q (.d (.int 0)) ((st ++ ys).take st.length) := fun es e ys => by
    rw [e] at h
    exact tkB h
  refine parse_pure hl hc (fun os e => ?_) (fun es os hne e => ?_) (fun e he ys os => ?_) (fun e ys os => ?_)
  · exact ok0 [] (by rw [e]; rfl) _
  · have : pTrain (toksF l) = .ok es := by
      unfold parseF at e
      split at e
      · cases e
      · rename_i es' hp
        split at e
        · cases e
        · cases e
          exact hp
    show Q _ (((st ++ _) ++ _).take st.length)
    rw [List.append_assoc]
    exact ok0 es this _
  · have hp : pTrain (toksF l) = .error e := by
      unfold parseF at he
      split at he
      · rename_i hp
        cases he
        exact hp
      · split at he <;> cases he
    rw [hp] at h
    have fin : Q (.d (.int (errI e))) ((((st ++ [Cell.dead]) ++ ys) ++ [Cell.dead]).take st.length) := by
      rw [List.append_assoc, List.append_assoc]
      exact tkB h
    cases e with
    | endE =>
      refine ⟨Nat.le_of_ble_eq_true rfl, _, List.mem_cons_self, fun a bd => ?_⟩
      let mm : M := ⟨[some (.d (wD l)), some (.c ((st ++ [Cell.dead]) ++ ys).length)], ((st ++ [Cell.dead]) ++ ys) ++ [Cell.dead]⟩
      refine guard_st mm (fun K hK => ⟨isx1 rfl, hK⟩) ?_
      refine ifs_t' mm (fun K hK => ⟨isx1 rfl, hK⟩) ?_
      exact fin
    | tok p =>
      refine ⟨Nat.le_of_ble_eq_true rfl, _, List.mem_cons_of_mem _ List.mem_cons_self, fun a bd => ?_⟩
      let mm : M := ⟨[some (.d (wD l)), some (.c ((st ++ [Cell.dead]) ++ ys).length)], ((st ++ [Cell.dead]) ++ ys) ++ [Cell.dead]⟩
      refine ifs_t' mm (fun K hK => ⟨isx1 rfl, hK⟩) ?_
      have hf : fldOf "TokenError" = some ("token" : Str) := by decide +kernel
      exact ⟨((st ++ [Cell.dead]) ++ ys).length, .int (p : Int), ("token" : Str), rfl, by
        show List.lookup _ ((_, OCell.exc a ((fldOf "TokenError").map (bd, ·)) _) :: _) = _
        rw [hf]
        exact List.lookup_cons_self, hf, fin⟩
  · have : ∃ es, pTrain (toksF l) = .ok es := by
      unfold parseF at e
      split at e
      · cases e
      · rename_i es' hp
        exact ⟨es', hp⟩
    obtain ⟨es, hp⟩ := this
    have fin : Q (.d (.int 0)) ((((st ++ [Cell.dead]) ++ ys) ++ [Cell.dead]).take st.length) := by
      rw [List.append_assoc, List.append_assoc]
      exact ok0 es hp _
    refine ⟨Nat.le_of_ble_eq_true rfl, _, List.mem_cons_of_mem _ (List.mem_cons_of_mem _ List.mem_cons_self), fun a bd => ?_⟩
    let mm : M := ⟨[some (.d (wD l)), some (.c ((st ++ [Cell.dead]) ++ ys).length)], ((st ++ [Cell.dead]) ++ ys) ++ [Cell.dead]⟩
    refine guard_st mm (fun K hK => ⟨isx1 rfl, hK⟩) ?_
    refine guard_st mm (fun K hK => ⟨isx1 rfl, hK⟩) ?_
    refine ifs_t' mm (fun K hK => ⟨isx1 rfl, hK⟩) ?_
    exact fin
end
end X
end PG

set_option maxRecDepth 100000
set_option maxHeartbeats 400000
namespace PG
open PySem PySem.Spec PyProof.Rows L2 RT S
namespace X
def csx (s : String) : List Nat := s.toList.map Char.toNat
theorem csx_ok (s : String) : Str.ofString s = Sx (csx s) := Str.ofString_eq_toList s
theorem strs_D (l : List String) : (l.map fun s => Dt.str (Str.ofString s)) = (l.map csx).map wD := by
  rw [List.map_map]
  exact List.map_congr_left fun s _ => str_cs' (csx_ok s)
theorem bank_ok : ∀ w ∈ bank, (w = [59] ∨ (w ≠ [] ∧ ∀ c ∈ w, c ≠ 32 ∧ c ≠ 59)) ∧ (∀ c ∈ w, c < 128) ∧ w.length ≤ 7 := by decide +kernel
def bk1 : List String := [";", "gap", "lens", "prism", "afocal", "stop", "from", "to", "at", "1", "-2/3", "0", "1000000"]
def bk2 : List String := ["00", "-0", "+1", "1/0", "1/", "2/3/4", "1000001", "Gap", "0/5", "-", "x", "1"]
def bk3 : List String := ["gap", "1", ";", "lens", "2", "at", "-1", ";", "stop", "from", "0", "to", "1"]
theorem bk12_in : ∀ w ∈ (bk1 ++ bk2).map csx, w ∈ bank := by decide +kernel
theorem bk3_in : ∀ w ∈ bk3.map csx, w ∈ bank := by decide +kernel
section
variable {t u : DE} {m : M} {xs ys : List Dt} {W V : List (List Nat)}
theorem ev_catW (h1 : Ev t m (.lst (W.map wD))) (h2 : Ev u m (.lst (V.map wD))) (hl : W.length + V.length ≤ 100000) : Ev (dOp rAddA t u) m (.lst ((W ++ V).map wD)) := ev_op (x := .lst (W.map wD)) (y := .lst (V.map wD)) (fun P hP => ⟨by rw [List.length_map, List.length_map]; exact Nat.le_of_lt (small_lt (by omega)), by
  rw [List.map_append] at hP
  exact hP⟩) h1 h2
theorem ev_lenW (h : Ev t m (.lst (W.map wD))) : Ev (dBi bLen (dCons t dNil)) m (.int (W.length : Nat)) := ev_bi (x := .lst (W.map wD)) (fun C hC => by
  show C (.int ((W.map wD).length : Nat))
  rw [List.length_map]
  exact hC) h
theorem cutW_to (W : List (List Nat)) (j : Nat) : RT.cutD (W.map wD) none (some (j : Int)) = (W.take j).map wD := by
  unfold RT.cutD
  rw [HT.sIx_none, HT.sIx_nat, List.drop_zero, Nat.sub_zero, List.length_map, List.map_take]
  by_cases h : j ≤ W.length
  · rw [Nat.min_eq_left h]
  · rw [Nat.min_eq_right (by omega), List.take_of_length_le (by rw [List.length_map]; omega), List.take_of_length_le (by rw [List.length_map]; omega)]
theorem cutW_from (W : List (List Nat)) (j : Nat) : RT.cutD (W.map wD) (some (j : Int)) none = (W.drop j).map wD := by
  unfold RT.cutD
  rw [HT.sIx_nat, HT.sIx_none, List.length_map, ← List.map_drop, ← List.map_take]
  congr 1
  by_cases h : j ≤ W.length
  · rw [Nat.min_eq_left h, List.take_of_length_le (by rw [List.length_drop]; omega)]
  · have e1 : W.drop (min j W.length) = [] := List.drop_of_length_le (by omega)
    have e2 : W.drop j = [] := List.drop_of_length_le (by omega)
    rw [e1, e2, List.take_nil]
theorem ev_slTW {j : Nat} (h : Ev t m (.lst (W.map wD))) {a : DE} (ha : Ev a m (.int j)) : Ev (dSl false t dNoP (dPart a)) m (.lst ((W.take j).map wD)) := fun K hK => h _ (ha _ (by
  show K (.d (.lst (RT.cutD (W.map wD) none (some (j : Int))))) m
  rw [cutW_to]
  exact hK))
theorem ev_join (h : Ev t m (.lst (W.map wD))) (hl : W.length ≤ 1000) (hz : ∀ w ∈ W, w.length ≤ 7) : Ev (dJoin (dC (.str (" " : Str))) t) m (wD (TL.joinL [32] W)) := fun K hK => by
  unfold dJoin dC
  rw [show (" " : Str) = Sx [32] by decide +kernel]
  refine h _ ?_
  refine onV_dm ?_
  refine ⟨_, strsD_w _, ?_, ?_⟩
  · have := sum_wl hz
    rw [List.length_map, SX.S_len]
    show _ + W.length * 1 ≤ _
    omega
  · rw [SX.join_S]
    exact hK
end
theorem join_snoc (W : List (List Nat)) (w : List Nat) (h : W ≠ []) : TL.joinL [32] (W ++ [w]) = TL.joinL [32] W ++ [32] ++ w := by
  cases W with
  | nil => exact absurd rfl h
  | cons a r =>
    rw [List.cons_append, join_cons, join_cons, List.flatMap_append]
    simp
theorem toks_join (W : List (List Nat)) (h : ∀ w ∈ W, Sp w) : toksF (TL.joinL [32] W) = W := by
  generalize hn : W.length = n
  induction n generalizing W with
  | zero =>
    rw [List.length_eq_zero_iff.mp hn]
    rfl
  | succ n ih =>
    have hne : W ≠ [] := fun e => by
      rw [e] at hn
      cases hn
    obtain ⟨V, w, rfl⟩ : ∃ V w, W = V ++ [w] := ⟨W.dropLast, W.getLast hne, (List.dropLast_concat_getLast hne).symm⟩
    rw [List.length_append, List.length_singleton] at hn
    have hV := ih V (fun x hx => h x (List.mem_append_left _ hx)) (by omega)
    have hw := h w (List.mem_append_right _ List.mem_cons_self)
    by_cases c : V = []
    · subst c
      show toksF w = [w]
      rcases hw with rfl | hw
      · exact (rdy_sc rdy_nil.toks).toks
      · exact rdy_nil.word hw
    · rw [join_snoc _ _ c]
      rcases hw with rfl | hw
      · exact (rdy_sc (rdy_sp hV).toks).toks
      · exact (rdy_sp hV).word hw
theorem join_len {W : List (List Nat)} {n : Nat} (h : ∀ w ∈ W, w.length ≤ n) : (TL.joinL [32] W).length ≤ (n + 1) * W.length := by
  cases W with
  | nil => exact Nat.zero_le _
  | cons a r =>
    rw [join_cons, List.length_append, List.length_cons, Nat.mul_succ]
    have key : ∀ r : List (List Nat), (∀ w ∈ r, w.length ≤ n) → (r.flatMap fun w => [32] ++ w).length ≤ (n + 1) * r.length := fun r => by
      induction r with
      | nil => intro _; exact Nat.zero_le _
      | cons b r ih =>
        intro hr
        have h1 := hr b List.mem_cons_self
        have h2 := ih (fun w h => hr w (List.mem_cons_of_mem _ h))
        rw [List.flatMap_cons]
        show (([32] ++ b) ++ r.flatMap _).length ≤ (n + 1) * (r.length + 1)
        rw [List.length_append, List.length_append, Nat.mul_succ]
        show 1 + b.length + _ ≤ _
        omega
    have h1 := h a List.mem_cons_self
    have h2 := key r (fun w h' => h w (List.mem_cons_of_mem _ h'))
    omega
theorem join_asc {W : List (List Nat)} (h : ∀ w ∈ W, Asc w) : Asc (TL.joinL [32] W) := by
  cases W with
  | nil => exact asc_nil
  | cons a r =>
    rw [join_cons]
    refine asc_app (h a List.mem_cons_self) fun c hc => ?_
    obtain ⟨w, hw, hc⟩ := List.mem_flatMap.mp hc
    rcases List.mem_append.mp hc with hc | hc
    · rw [List.mem_singleton.mp hc]
      decide
    · exact h w (List.mem_cons_of_mem _ hw) c hc
theorem sl_step {t b : DE} {m : M} {K : Vl → M → Prop} {xs : List Dt} (h : Ev t m (.lst xs)) (hb : dPart b m fun l m2 => K (.d (.lst (RT.cutD xs l none))) m2) : dSl false t (dPart b) dNoP m K := h _ hb
theorem part_draw {A D : DE} {m m' : M} {K : Option Int → M → Prop} {a n : Int} (hv : Ev A m (.int a)) (hd : ∀ C : Vl → M → Prop, (∀ r : Int, 0 ≤ r → r < n → C (.d (.int r)) m') → D m C) (h : ∀ r, 0 ≤ r → r < n → K (some (a + r)) m') : dPart (dOp rAddA A D) m K := by
  unfold dPart dOp
  exact hv _ (hd _ fun r r0 r1 => h r r0 r1)
theorem op_l {r : DR2} {A B : DE} {m : M} {K : Vl → M → Prop} {x : Dt} (h : Ev A m x) (hb : B m fun w m2 => onV m2 w fun y => r x y fun z => K (.d z) m2) : dOp r A B m K := h _ hb
theorem law_k18X : LawD 63 sp_law_47 := fun ns hl hb => by
  unfold sp_law_47
  refine ⟨rfl, ?_⟩
  let sc : Option Vl := some (.d (.lst (ns.map .int)))
  refine seq_mid (fun m => ∃ ds : List Int, m = ⟨[sc, some (.c 0), none, none, none, none, none, none, none], [Bx ds 0]⟩) (fun K hK => digits_ok hb (by decide) (by decide) (by decide) fun ds hd hdl => ⟨lineN rfl, hK _ ⟨ds, rfl⟩⟩) ?_
  rintro _ ⟨ds, rfl⟩
  let Y : List (List Nat) → Option Vl → Option Vl → Option Vl → Option Vl → Option Vl → Option Vl → Nat → M := fun W z3 z4 z5 z6 z7 z8 j => ⟨[sc, some (.c 0), some (.d (.lst (W.map wD))), z3, z4, z5, z6, z7, z8], [Bx ds j]⟩
  refine seq_to (Y [] none none none none none none 0) (fun K hK => ⟨lineN rfl, hK⟩) ?_
  refine seq_mid (fun m => True) (fun K hK => ?_) ?_
  · refine ⟨⟨by decide, by decide⟩, ?_⟩
    refine range_inv (fun n lo m => ∃ k : Nat, lo = (k : Int) ∧ k + n = 8 ∧ ∃ W z3 z4 z5 z6 z7 z8 j, W.length ≤ 13 * k ∧ (∀ w ∈ W, w ∈ bank) ∧ m = Y W z3 z4 z5 z6 z7 z8 j) ?_ ?_ 8 0 _ ⟨0, rfl, rfl, [], none, none, none, none, none, none, 0, Nat.le_refl _, (fun w h => nomatch h), rfl⟩
    · rintro n _ _ K hK ⟨k, rfl, hn, W, z3, z4, z5, z6, z7, z8, j, hWl, hWb, rfl⟩
      let Z : Option Vl := some (.d (.int k))
      let B : List (List Nat) := (bk1 ++ bk2).map csx
      have eB : (bk1.map csx) ++ (bk2.map csx) = B := List.map_append.symm
      refine ev_set (d := .lst ((bk1.map csx).map wD)) (fun K hK => ⟨lineN rfl, by
        rw [← strs_D] at hK
        exact hK⟩) ?_
      refine ev_set (d := .lst (B.map wD)) (by
        rw [← eB]
        refine ev_catW (ev_var rfl) (fun K hK => ⟨lineN rfl, ?_⟩) (by rw [List.length_map, List.length_map]; decide)
        rw [← strs_D] at hK
        exact hK) ?_
      refine seq_mid (fun m => ∃ w ∈ bank, m = Y W Z (some (.d (.lst (B.map wD)))) (some (.d (wD w))) z6 z7 z8 (j + 1)) (fun K hK => draw_ok (k := 0) (i := j) (ds := ds) rfl (by decide) fun r r0 r1 => ?_) ?_
      · have hb : B.length = 25 := by decide
        obtain ⟨i, rfl⟩ : ∃ i : Nat, r = (i : Int) := ⟨r.toNat, by omega⟩
        obtain ⟨w, hr⟩ : ∃ w, B[i]? = some w := ⟨B[i]'(by omega), List.getElem?_eq_getElem (by omega)⟩
        refine onV_dm (onV_dm (rIx_mk (z := wD w) (atI_map hr) ?_))
        exact hK _ ⟨_, bk12_in _ (List.mem_of_getElem? hr), rfl⟩
      rintro _ ⟨w, hw, rfl⟩
      refine seq_mid (fun m => ∃ q : Int, 0 ≤ q ∧ q < 4 ∧ m = Y W Z (some (.d (.lst (B.map wD)))) (some (.d (wD w))) (some (.d (.int q))) z7 z8 (j + 2)) (fun K hK => draw_ok (k := 0) (i := j + 1) (ds := ds) rfl (by decide) fun r r0 r1 => hK _ ⟨r, r0, r1, rfl⟩) ?_
      rintro _ ⟨q, q0, q4, rfl⟩
      let m1 : M := Y W Z (some (.d (.lst (B.map wD)))) (some (.d (wD w))) (some (.d (.int q))) z7 z8 (j + 2)
      refine seq_mid (fun m => ∃ V z7 j', V.length ≤ 13 * (k + 1) ∧ (∀ v ∈ V, v ∈ bank) ∧ m = Y V Z (some (.d (.lst (B.map wD)))) (some (.d (wD w))) (some (.d (.int q))) z7 z8 j') (fun K hK => ?_) ?_
      · have t0 := tv_test (ev_eqi (m := m1) (a := dVar 6) (i := q) (j := 0) (ev_var rfl) (ev_c _))
        by_cases c0 : q = 0
        · rw [decide_eq_true c0] at t0
          refine difs_yes t0 ?_
          let V : List (List Nat) := W ++ bk3.map csx
          have Vb : ∀ v ∈ V, v ∈ bank := fun v hv => (List.mem_append.mp hv).elim (hWb v) (bk3_in v)
          have Vl : V.length ≤ 13 * (k + 1) := by
            show (W ++ _).length ≤ _
            rw [List.length_append, List.length_map]
            show _ + 13 ≤ _
            omega
          refine ev_set (d := .lst (V.map wD)) (ev_catW (ev_var rfl) (fun K hK => ⟨lineN rfl, by
            rw [← strs_D] at hK
            exact hK⟩) (by rw [List.length_map]; show _ + 13 ≤ _; omega)) ?_
          show sp__law_draw [.c 0, .d (.int (((V.map wD).length : Nat) + 1))] _ _
          rw [List.length_map]
          refine draw_ok (k := 0) (i := j + 2) (ds := ds) rfl (by omega) fun r r0 r1 => ?_
          show K ⟨_, _⟩
          rw [show r = ((r.toNat : Nat) : Int) by omega, cutW_to]
          exact hK _ ⟨V.take r.toNat, z7, j + 3, by rw [List.length_take]; omega, fun v hv => Vb v (List.mem_of_mem_take hv), rfl⟩
        rw [decide_eq_false c0] at t0
        refine difs_els t0 ?_
        have t1 := tv_and (tv_test (ev_eqi (m := m1) (a := dVar 6) (i := q) (j := 1) (ev_var rfl) (ev_c _))) (fun _ => tv_test (ev_gtn' (ev_lenW (m := m1) (t := dVar 2) (W := W) (ev_var rfl)) (ev_c (.int (0 : Nat)))))
        by_cases c1 : (decide (q = 1) && decide (0 < W.length)) = true
        · rw [c1] at t1
          rw [Bool.and_eq_true, decide_eq_true_eq, decide_eq_true_eq] at c1
          refine difs_yes t1 ?_
          refine seq_mid (fun m => ∃ a : Nat, a < W.length ∧ m = Y W Z (some (.d (.lst (B.map wD)))) (some (.d (wD w))) (some (.d (.int q))) (some (.d (.int a))) z8 (j + 3)) (fun K hK => ?_) ?_
          · show sp__law_draw [.c 0, .d (.int ((W.map wD).length : Nat))] _ _
            rw [List.length_map]
            refine draw_ok (k := 0) (i := j + 2) (ds := ds) rfl (by omega) fun r r0 r1 => ?_
            refine hK _ ⟨r.toNat, by omega, ?_⟩
            rw [show ((r.toNat : Nat) : Int) = r by omega]
            rfl
          rintro _ ⟨a, ha, rfl⟩
          let m2 : M := Y W Z (some (.d (.lst (B.map wD)))) (some (.d (wD w))) (some (.d (.int q))) (some (.d (.int a))) z8 (j + 3)
          have hA : Ev (dOp rAddA (dSl false (dVar 2) dNoP (dPart (dVar 7))) (dLst (dCons (dVar 5) dNil))) m2 (.lst ((W.take a ++ [w]).map wD)) := ev_catW (W := W.take a) (V := [w]) (ev_slTW (ev_var rfl) (ev_var rfl)) (ev_lst1 (ev_var rfl)) (by rw [List.length_take]; show _ + 1 ≤ _; omega)
          refine op_l hA ?_
          refine sl_step (xs := W.map wD) (ev_var rfl) ?_
          refine part_draw (n := 2) (a := (a : Int)) (m' := Y W Z (some (.d (.lst (B.map wD)))) (some (.d (wD w))) (some (.d (.int q))) (some (.d (.int a))) z8 (j + 4)) (ev_var rfl) (fun C hC => draw_ok (k := 0) (i := j + 3) (ds := ds) rfl (by decide) fun r r0 r1 => hC r r0 r1) fun r r0 r1 => ?_
          have er : (a : Int) + r = ((a + r.toNat : Nat) : Int) := by omega
          rw [er, cutW_from]
          refine onV_dm ⟨by
            rw [List.length_map, List.length_map, List.length_append, List.length_take, List.length_drop]
            exact Nat.le_of_lt (small_lt (by show _ + 1 + _ < _; omega)), ?_⟩
          show K ⟨_, _⟩
          rw [← List.map_append]
          refine hK _ ⟨W.take a ++ [w] ++ W.drop (a + r.toNat), some (.d (.int a)), j + 4, ?_, fun v hv => ?_, rfl⟩
          · rw [List.length_append, List.length_append, List.length_take, List.length_drop]
            show _ + 1 + _ ≤ _
            omega
          · rcases List.mem_append.mp hv with hv | hv
            · rcases List.mem_append.mp hv with hv | hv
              · exact hWb v (List.mem_of_mem_take hv)
              · rw [List.mem_singleton.mp hv]
                exact hw
            · exact hWb v (List.mem_of_mem_drop hv)
        · have c1 : (decide (q = 1) && decide (0 < W.length)) = false := by simpa using c1
          rw [c1] at t1
          refine difs_els t1 ?_
          refine set_ev (ev_catW (W := W) (V := [w]) (ev_var rfl) (ev_lst1 (ev_var rfl)) (by show _ + 1 ≤ _; omega)) ?_
          refine hK _ ⟨W ++ [w], z7, j + 2, ?_, fun v hv => ?_, rfl⟩
          · rw [List.length_append]
            show _ + 1 ≤ _
            omega
          · rcases List.mem_append.mp hv with hv | hv
            · exact hWb v hv
            · rw [List.mem_singleton.mp hv]
              exact hw
      rintro _ ⟨V, z7', j', hVl, hVb, rfl⟩
      have hV7 : ∀ v ∈ V, v.length ≤ 7 := fun v hv => (bank_ok v (hVb v hv)).2.2
      have hVa : ∀ v ∈ V, Asc v := fun v hv => (bank_ok v (hVb v hv)).2.1
      have hVs : ∀ v ∈ V, Sp v := fun v hv => (bank_ok v (hVb v hv)).1
      have tj := toks_join V hVs
      have jl : (TL.joinL [32] V).length ≤ 40000 := by
        have := join_len hV7
        omega
      let m3 : M := Y V Z (some (.d (.lst (B.map wD)))) (some (.d (wD w))) (some (.d (.int q))) z7' z8 j'
      refine ev_set (d := .int (toldN V)) (ev_call (m := m3) (x := wD (TL.joinL [32] V)) (fun Q hQ => told_ok jl (join_asc hVa) (by rw [tj]; exact hQ)) (ev_join (ev_var rfl) (by omega) hV7)) ?_
      let m4 : M := Y V Z (some (.d (.lst (B.map wD)))) (some (.d (wD w))) (some (.d (.int q))) z7' (some (.d (.int (toldN V)))) j'
      have tg : Tv (dOr (dTest (dOp RT.rNe (dVar 8) (dCall PG.sp__law_due_7 [] (dCons (dVar 2) dNil)))) (dTru (dIsi .bool (dVar 8)))) m4 false := tv_or (p := false) (q := false) (tv_test (ev_same (x := .int (toldN V)) (sh_ok (n := 0) sh_int) (ev_var rfl) (ev_call (x := .lst (V.map wD)) (fun Q hQ => due_ok (by omega) (fun v hv => ⟨hVa v hv, Nat.le_trans (hV7 v hv) (by decide), bank_num v (hVb v hv)⟩) (by rw [due_told]; exact hQ)) (ev_var rfl)))) (fun K hK => hK)
      refine guard_st m4 tg ?_
      have tp := tv_test (ev_gti (m := m4) (t := dVar 8) (i := toldN V) (j := 0) (ev_var rfl) (ev_c _))
      by_cases c : 0 < toldN V
      · rw [decide_eq_true c] at tp
        refine difs_yes tp ?_
        refine set_ev (ev_slTW (W := V) (j := (toldN V - 1).toNat) (ev_var rfl) (by
          have := ev_subi (m := m4) (a := dVar 8) (b := dC (.int 1)) (i := toldN V) (j := 1) (ev_var rfl) (ev_c _)
          rw [show toldN V - 1 = (((toldN V - 1).toNat : Nat) : Int) by omega] at this
          exact this)) ?_
        exact hK _ ⟨k + 1, by omega, by omega, V.take (toldN V - 1).toNat, _, _, _, _, _, _, j', by rw [List.length_take]; omega, fun v hv => hVb v (List.mem_of_mem_take hv), rfl⟩
      · rw [decide_eq_false c] at tp
        exact difs_no tp (hK _ ⟨k + 1, by omega, by omega, V, _, _, _, _, _, _, j', by omega, hVb, rfl⟩)
    · rintro _ _ _
      exact hK _ trivial
  · rintro m _
    exact rfl
end X
theorem law_k18 : LawD 63 sp_law_47 := X.law_k18X
end PG

set_option maxRecDepth 100000
set_option maxHeartbeats 4000000
namespace K18
open PySem PySem.Spec PyProof.Rows L2 RT

def top (i : Nat) : Stmt := PySem.Challenge.pw_raytrain_k18_first_token_that_cannot_sta.main.body.getD i (.Pass ⟨0, 0, 0, 0⟩)
abbrev s_common_divisor : Stmt := top 7
abbrev s_fraction : Stmt := top 8
abbrev s_add : Stmt := top 9
abbrev s_negative : Stmt := top 10
abbrev s_subtract : Stmt := top 11
abbrev s_sign : Stmt := top 12
abbrev s_compare : Stmt := top 13
abbrev s_is_less : Stmt := top 14
abbrev s_tokens_of : Stmt := top 22
abbrev s_natural_of : Stmt := top 23
abbrev s_fraction_of : Stmt := top 24
abbrev s_Reader___init__ : Stmt := inClass (top 25) 0
abbrev s_Reader_is_next : Stmt := inClass (top 25) 1
abbrev s_Reader_token : Stmt := inClass (top 25) 2
abbrev s_Reader_number : Stmt := inClass (top 25) 3
abbrev s_Reader_stop : Stmt := inClass (top 25) 4
abbrev s_Reader_element : Stmt := inClass (top 25) 5
abbrev s_Reader_train : Stmt := inClass (top 25) 6
abbrev s_is_good : Stmt := top 26
abbrev s_parse_train : Stmt := top 27
abbrev s__law_cell : Stmt := top 29
abbrev s__law_digits : Stmt := top 30
abbrev s__law_draw : Stmt := top 31
abbrev s__law_divisor : Stmt := top 32
abbrev s__law_fr : Stmt := top 33
abbrev s__law_add : Stmt := top 34
abbrev s__law_sub : Stmt := top 35
abbrev s__law_mul : Stmt := top 36
abbrev s__law_less : Stmt := top 37
abbrev s__law_some : Stmt := top 38
abbrev s__law_other : Stmt := top 39
abbrev s__law_is_fr : Stmt := top 40
abbrev s__law_stop : Stmt := top 41
abbrev s__law_element : Stmt := top 42
abbrev s__law_train : Stmt := top 43
abbrev s__law_behind : Stmt := top 44
abbrev s__law_blocks : Stmt := top 45
abbrev s__law_go : Stmt := top 46
abbrev s__law_ray : Stmt := top 47
abbrev s__law_figures : Stmt := top 48
abbrev s__law_is_number : Stmt := top 49
abbrev s__law_next : Stmt := top 50
abbrev s__law_due : Stmt := top 51
abbrev s__law_told : Stmt := top 52
abbrev s_law : Stmt := top 53
def dd_common_divisor : He.DefD := ⟨("common_divisor", none), "common_divisor", "common_divisor", defArgs s_common_divisor, defBody s_common_divisor, defScope s_common_divisor, [], []⟩
def dd_fraction : He.DefD := ⟨("fraction", none), "fraction", "fraction", defArgs s_fraction, defBody s_fraction, defScope s_fraction, [.int 1], []⟩
def dd_add : He.DefD := ⟨("add", none), "add", "add", defArgs s_add, defBody s_add, defScope s_add, [], []⟩
def dd_negative : He.DefD := ⟨("negative", none), "negative", "negative", defArgs s_negative, defBody s_negative, defScope s_negative, [], []⟩
def dd_subtract : He.DefD := ⟨("subtract", none), "subtract", "subtract", defArgs s_subtract, defBody s_subtract, defScope s_subtract, [], []⟩
def dd_sign : He.DefD := ⟨("sign", none), "sign", "sign", defArgs s_sign, defBody s_sign, defScope s_sign, [], []⟩
def dd_compare : He.DefD := ⟨("compare", none), "compare", "compare", defArgs s_compare, defBody s_compare, defScope s_compare, [], []⟩
def dd_is_less : He.DefD := ⟨("is_less", none), "is_less", "is_less", defArgs s_is_less, defBody s_is_less, defScope s_is_less, [], []⟩
def dd_tokens_of : He.DefD := ⟨("tokens_of", none), "tokens_of", "tokens_of", defArgs s_tokens_of, defBody s_tokens_of, defScope s_tokens_of, [], []⟩
def dd_natural_of : He.DefD := ⟨("natural_of", none), "natural_of", "natural_of", defArgs s_natural_of, defBody s_natural_of, defScope s_natural_of, [], []⟩
def dd_fraction_of : He.DefD := ⟨("fraction_of", none), "fraction_of", "fraction_of", defArgs s_fraction_of, defBody s_fraction_of, defScope s_fraction_of, [], []⟩
def dd_Reader___init__ : He.DefD := ⟨("Reader", some "__init__"), "__init__", "Reader.__init__", defArgs s_Reader___init__, defBody s_Reader___init__, defScope s_Reader___init__, [], []⟩
def dd_Reader_is_next : He.DefD := ⟨("Reader", some "is_next"), "is_next", "Reader.is_next", defArgs s_Reader_is_next, defBody s_Reader_is_next, defScope s_Reader_is_next, [], []⟩
def dd_Reader_token : He.DefD := ⟨("Reader", some "token"), "token", "Reader.token", defArgs s_Reader_token, defBody s_Reader_token, defScope s_Reader_token, [], []⟩
def dd_Reader_number : He.DefD := ⟨("Reader", some "number"), "number", "Reader.number", defArgs s_Reader_number, defBody s_Reader_number, defScope s_Reader_number, [], []⟩
def dd_Reader_stop : He.DefD := ⟨("Reader", some "stop"), "stop", "Reader.stop", defArgs s_Reader_stop, defBody s_Reader_stop, defScope s_Reader_stop, [], []⟩
def dd_Reader_element : He.DefD := ⟨("Reader", some "element"), "element", "Reader.element", defArgs s_Reader_element, defBody s_Reader_element, defScope s_Reader_element, [], []⟩
def dd_Reader_train : He.DefD := ⟨("Reader", some "train"), "train", "Reader.train", defArgs s_Reader_train, defBody s_Reader_train, defScope s_Reader_train, [], []⟩
def dd_is_good : He.DefD := ⟨("is_good", none), "is_good", "is_good", defArgs s_is_good, defBody s_is_good, defScope s_is_good, [], []⟩
def dd_parse_train : He.DefD := ⟨("parse_train", none), "parse_train", "parse_train", defArgs s_parse_train, defBody s_parse_train, defScope s_parse_train, [], []⟩
def dd__law_cell : He.DefD := ⟨("_law_cell", none), "_law_cell", "_law_cell", defArgs s__law_cell, defBody s__law_cell, defScope s__law_cell, [], []⟩
def dd__law_digits : He.DefD := ⟨("_law_digits", none), "_law_digits", "_law_digits", defArgs s__law_digits, defBody s__law_digits, defScope s__law_digits, [], []⟩
def dd__law_draw : He.DefD := ⟨("_law_draw", none), "_law_draw", "_law_draw", defArgs s__law_draw, defBody s__law_draw, defScope s__law_draw, [], []⟩
def dd__law_divisor : He.DefD := ⟨("_law_divisor", none), "_law_divisor", "_law_divisor", defArgs s__law_divisor, defBody s__law_divisor, defScope s__law_divisor, [], []⟩
def dd__law_fr : He.DefD := ⟨("_law_fr", none), "_law_fr", "_law_fr", defArgs s__law_fr, defBody s__law_fr, defScope s__law_fr, [], []⟩
def dd__law_add : He.DefD := ⟨("_law_add", none), "_law_add", "_law_add", defArgs s__law_add, defBody s__law_add, defScope s__law_add, [], []⟩
def dd__law_sub : He.DefD := ⟨("_law_sub", none), "_law_sub", "_law_sub", defArgs s__law_sub, defBody s__law_sub, defScope s__law_sub, [], []⟩
def dd__law_mul : He.DefD := ⟨("_law_mul", none), "_law_mul", "_law_mul", defArgs s__law_mul, defBody s__law_mul, defScope s__law_mul, [], []⟩
def dd__law_less : He.DefD := ⟨("_law_less", none), "_law_less", "_law_less", defArgs s__law_less, defBody s__law_less, defScope s__law_less, [], []⟩
def dd__law_some : He.DefD := ⟨("_law_some", none), "_law_some", "_law_some", defArgs s__law_some, defBody s__law_some, defScope s__law_some, [], []⟩
def dd__law_other : He.DefD := ⟨("_law_other", none), "_law_other", "_law_other", defArgs s__law_other, defBody s__law_other, defScope s__law_other, [], []⟩
def dd__law_is_fr : He.DefD := ⟨("_law_is_fr", none), "_law_is_fr", "_law_is_fr", defArgs s__law_is_fr, defBody s__law_is_fr, defScope s__law_is_fr, [], []⟩
def dd__law_stop : He.DefD := ⟨("_law_stop", none), "_law_stop", "_law_stop", defArgs s__law_stop, defBody s__law_stop, defScope s__law_stop, [], []⟩
def dd__law_element : He.DefD := ⟨("_law_element", none), "_law_element", "_law_element", defArgs s__law_element, defBody s__law_element, defScope s__law_element, [], []⟩
def dd__law_train : He.DefD := ⟨("_law_train", none), "_law_train", "_law_train", defArgs s__law_train, defBody s__law_train, defScope s__law_train, [], []⟩
def dd__law_behind : He.DefD := ⟨("_law_behind", none), "_law_behind", "_law_behind", defArgs s__law_behind, defBody s__law_behind, defScope s__law_behind, [], []⟩
def dd__law_blocks : He.DefD := ⟨("_law_blocks", none), "_law_blocks", "_law_blocks", defArgs s__law_blocks, defBody s__law_blocks, defScope s__law_blocks, [], []⟩
def dd__law_go : He.DefD := ⟨("_law_go", none), "_law_go", "_law_go", defArgs s__law_go, defBody s__law_go, defScope s__law_go, [], []⟩
def dd__law_ray : He.DefD := ⟨("_law_ray", none), "_law_ray", "_law_ray", defArgs s__law_ray, defBody s__law_ray, defScope s__law_ray, [], []⟩
def dd__law_figures : He.DefD := ⟨("_law_figures", none), "_law_figures", "_law_figures", defArgs s__law_figures, defBody s__law_figures, defScope s__law_figures, [], []⟩
def dd__law_is_number : He.DefD := ⟨("_law_is_number", none), "_law_is_number", "_law_is_number", defArgs s__law_is_number, defBody s__law_is_number, defScope s__law_is_number, [], []⟩
def dd__law_next : He.DefD := ⟨("_law_next", none), "_law_next", "_law_next", defArgs s__law_next, defBody s__law_next, defScope s__law_next, [], []⟩
def dd__law_due : He.DefD := ⟨("_law_due", none), "_law_due", "_law_due", defArgs s__law_due, defBody s__law_due, defScope s__law_due, [], []⟩
def dd__law_told : He.DefD := ⟨("_law_told", none), "_law_told", "_law_told", defArgs s__law_told, defBody s__law_told, defScope s__law_told, [], []⟩
def dd_law : He.DefD := ⟨("law", none), "law", "law", defArgs s_law, defBody s_law, defScope s_law, [], []⟩
def file : Str := "/claim/cut.py"
abbrev s_i_TokenError : Stmt := inClass (top 2) 0
def dE_TokenError : ErD := ⟨"TokenError", "token", "TokenError.__init__", defArgs s_i_TokenError, defBody s_i_TokenError, defScope s_i_TokenError⟩
def el : List ErD := [dE_TokenError]
def fn : List He.DefD := [dd_common_divisor, dd_fraction, dd_add, dd_negative, dd_subtract, dd_sign, dd_compare, dd_is_less, dd_tokens_of, dd_natural_of, dd_fraction_of, dd_Reader___init__, dd_Reader_is_next, dd_Reader_token, dd_Reader_number, dd_Reader_stop, dd_Reader_element, dd_Reader_train, dd_is_good, dd_parse_train, dd__law_cell, dd__law_digits, dd__law_draw, dd__law_divisor, dd__law_fr, dd__law_add, dd__law_sub, dd__law_mul, dd__law_less, dd__law_some, dd__law_other, dd__law_is_fr, dd__law_stop, dd__law_element, dd__law_train, dd__law_behind, dd__law_blocks, dd__law_go, dd__law_ray, dd__law_figures, dd__law_is_number, dd__law_next, dd__law_due, dd__law_told, dd_law]
def ml : List (Str × Str) := [("Reader", "__init__"), ("Reader", "is_next"), ("Reader", "token"), ("Reader", "number"), ("Reader", "stop"), ("Reader", "element"), ("Reader", "train"), ("TokenError", "__init__")]
def fa : List He.Fa := [.glo "common_divisor", .glo "fraction", .glo "add", .glo "negative", .glo "subtract", .glo "sign", .glo "compare", .glo "is_less", .glo "tokens_of", .glo "natural_of", .glo "fraction_of", .glo "Reader", .glo "Reader", .glo "Reader", .glo "Reader", .glo "Reader", .glo "Reader", .glo "Reader", .glo "is_good", .glo "parse_train", .glo "_law_cell", .glo "_law_digits", .glo "_law_draw", .glo "_law_divisor", .glo "_law_fr", .glo "_law_add", .glo "_law_sub", .glo "_law_mul", .glo "_law_less", .glo "_law_some", .glo "_law_other", .glo "_law_is_fr", .glo "_law_stop", .glo "_law_element", .glo "_law_train", .glo "_law_behind", .glo "_law_blocks", .glo "_law_go", .glo "_law_ray", .glo "_law_figures", .glo "_law_is_number", .glo "_law_next", .glo "_law_due", .glo "_law_told", .glo "law", .free "abs", .free "len", .free "all", .free "int", .free "any", .free "range", .free "isinstance", .free "tuple", .free "bool", .free "super", .glo "Reader", .cls "Reader", .mkr "Reader", .noat "Reader" "tokens", .noat "Reader" "place", .meth "Reader" "is_next", .meth "Reader" "token", .meth "Reader" "number", .meth "Reader" "stop", .meth "Reader" "element", .meth "Reader" "train"]
def xb (K : PySem.W.Frag) : Bool := cstB K "ZERO" PG.v_ZERO && (cstB K "FIGURES" PG.v_FIGURES && (cstB K "PART_MOST" PG.v_PART_MOST && (cstB K "LONGEST" PG.v_LONGEST && (cstB K "ELEMENTS_MOST" PG.v_ELEMENTS_MOST && (cstB K "STOPS_MOST" PG.v_STOPS_MOST && (cstB K "WORDS" PG.v_WORDS && ((tabK K ("natural_of", none)).isSome && ((tabK K ("fraction_of", none)).isSome && ((tabK K ("parse_train", none)).isSome && (exmB K "EndError" "RaytrainError" && (exuB K "EndError" && (isiB K "EndError" "TokenError" false && (isiB K "EndError" "EndError" true && (isiB K "EndError" "BadTrain" false && (exmB K "TokenError" "RaytrainError" && (exuB K "TokenError" && (isiB K "TokenError" "TokenError" true && (isiB K "TokenError" "EndError" false && (isiB K "TokenError" "BadTrain" false && (exmB K "BadTrain" "RaytrainError" && (exuB K "BadTrain" && (isiB K "BadTrain" "TokenError" false && (isiB K "BadTrain" "EndError" false && (isiB K "BadTrain" "BadTrain" true && (excB K "EndError" && (einB K file dE_TokenError && (excB K "BadTrain")))))))))))))))))))))))))))
section
variable {P : Program} {w : World} {K : PySem.W.Frag} {mg : Str → Option Value} {base : Heap}
theorem e_exmB_EndError_RaytrainError (KX : K.In base) (GX : base.Ns mainGlobals mg) (hxb : xb K = true) : ExmG K mg "EndError" "RaytrainError" := exmG_of KX GX ((band (band (band (band (band (band (band (band (band (band (band hxb).2).2).2).2).2).2).2).2).2).2).1)
theorem e_exuB_EndError (hxb : xb K = true) : ExcU K "EndError" := exu_of ((band (band (band (band (band (band (band (band (band (band (band (band hxb).2).2).2).2).2).2).2).2).2).2).2).1)
theorem e_isiB_EndError_TokenError_False (KX : K.In base) (GX : base.Ns mainGlobals mg) (hxb : xb K = true) : IsiG K mg "EndError" "TokenError" false := isiG_of KX GX ((band (band (band (band (band (band (band (band (band (band (band (band (band hxb).2).2).2).2).2).2).2).2).2).2).2).2).1)
theorem e_isiB_EndError_EndError_True (KX : K.In base) (GX : base.Ns mainGlobals mg) (hxb : xb K = true) : IsiG K mg "EndError" "EndError" true := isiG_of KX GX ((band (band (band (band (band (band (band (band (band (band (band (band (band (band hxb).2).2).2).2).2).2).2).2).2).2).2).2).2).1)
theorem e_isiB_EndError_BadTrain_False (KX : K.In base) (GX : base.Ns mainGlobals mg) (hxb : xb K = true) : IsiG K mg "EndError" "BadTrain" false := isiG_of KX GX ((band (band (band (band (band (band (band (band (band (band (band (band (band (band (band hxb).2).2).2).2).2).2).2).2).2).2).2).2).2).2).1)
theorem e_exmB_TokenError_RaytrainError (KX : K.In base) (GX : base.Ns mainGlobals mg) (hxb : xb K = true) : ExmG K mg "TokenError" "RaytrainError" := exmG_of KX GX ((band (band (band (band (band (band (band (band (band (band (band (band (band (band (band (band hxb).2).2).2).2).2).2).2).2).2).2).2).2).2).2).2).1)
theorem e_exuB_TokenError (hxb : xb K = true) : ExcU K "TokenError" := exu_of ((band (band (band (band (band (band (band (band (band (band (band (band (band (band (band (band (band hxb).2).2).2).2).2).2).2).2).2).2).2).2).2).2).2).2).1)
theorem e_isiB_TokenError_TokenError_True (KX : K.In base) (GX : base.Ns mainGlobals mg) (hxb : xb K = true) : IsiG K mg "TokenError" "TokenError" true := isiG_of KX GX ((band (band (band (band (band (band (band (band (band (band (band (band (band (band (band (band (band (band hxb).2).2).2).2).2).2).2).2).2).2).2).2).2).2).2).2).2).1)
theorem e_isiB_TokenError_EndError_False (KX : K.In base) (GX : base.Ns mainGlobals mg) (hxb : xb K = true) : IsiG K mg "TokenError" "EndError" false := isiG_of KX GX ((band (band (band (band (band (band (band (band (band (band (band (band (band (band (band (band (band (band (band hxb).2).2).2).2).2).2).2).2).2).2).2).2).2).2).2).2).2).2).1)
theorem e_isiB_TokenError_BadTrain_False (KX : K.In base) (GX : base.Ns mainGlobals mg) (hxb : xb K = true) : IsiG K mg "TokenError" "BadTrain" false := isiG_of KX GX ((band (band (band (band (band (band (band (band (band (band (band (band (band (band (band (band (band (band (band (band hxb).2).2).2).2).2).2).2).2).2).2).2).2).2).2).2).2).2).2).2).1)
theorem e_exmB_BadTrain_RaytrainError (KX : K.In base) (GX : base.Ns mainGlobals mg) (hxb : xb K = true) : ExmG K mg "BadTrain" "RaytrainError" := exmG_of KX GX ((band (band (band (band (band (band (band (band (band (band (band (band (band (band (band (band (band (band (band (band (band hxb).2).2).2).2).2).2).2).2).2).2).2).2).2).2).2).2).2).2).2).2).1)
theorem e_exuB_BadTrain (hxb : xb K = true) : ExcU K "BadTrain" := exu_of ((band (band (band (band (band (band (band (band (band (band (band (band (band (band (band (band (band (band (band (band (band (band hxb).2).2).2).2).2).2).2).2).2).2).2).2).2).2).2).2).2).2).2).2).2).1)
theorem e_isiB_BadTrain_TokenError_False (KX : K.In base) (GX : base.Ns mainGlobals mg) (hxb : xb K = true) : IsiG K mg "BadTrain" "TokenError" false := isiG_of KX GX ((band (band (band (band (band (band (band (band (band (band (band (band (band (band (band (band (band (band (band (band (band (band (band hxb).2).2).2).2).2).2).2).2).2).2).2).2).2).2).2).2).2).2).2).2).2).2).1)
theorem e_isiB_BadTrain_EndError_False (KX : K.In base) (GX : base.Ns mainGlobals mg) (hxb : xb K = true) : IsiG K mg "BadTrain" "EndError" false := isiG_of KX GX ((band (band (band (band (band (band (band (band (band (band (band (band (band (band (band (band (band (band (band (band (band (band (band (band hxb).2).2).2).2).2).2).2).2).2).2).2).2).2).2).2).2).2).2).2).2).2).2).2).1)
theorem e_isiB_BadTrain_BadTrain_True (KX : K.In base) (GX : base.Ns mainGlobals mg) (hxb : xb K = true) : IsiG K mg "BadTrain" "BadTrain" true := isiG_of KX GX ((band (band (band (band (band (band (band (band (band (band (band (band (band (band (band (band (band (band (band (band (band (band (band (band (band hxb).2).2).2).2).2).2).2).2).2).2).2).2).2).2).2).2).2).2).2).2).2).2).2).2).1)
theorem e_excB_EndError (KX : K.In base) (GX : base.Ns mainGlobals mg) (hxb : xb K = true) : ExcG K mg "EndError" := excG_of KX GX ((band (band (band (band (band (band (band (band (band (band (band (band (band (band (band (band (band (band (band (band (band (band (band (band (band (band hxb).2).2).2).2).2).2).2).2).2).2).2).2).2).2).2).2).2).2).2).2).2).2).2).2).2).1)
theorem e_einB_TokenError (KX : K.In base) (GX : base.Ns mainGlobals mg) (c : He.SaysD fa fn K) (hxb : xb K = true) (hpr : PrgOk P file) (hml : el.map (fun d => mtW K d.x) = el.map ErD.val) : ErrI P w K mg base "TokenError" 1 := errI_of (d := dE_TokenError) (arg := "token") KX GX hpr ((band (band (band (band (band (band (band (band (band (band (band (band (band (band (band (band (band (band (band (band (band (band (band (band (band (band (band hxb).2).2).2).2).2).2).2).2).2).2).2).2).2).2).2).2).2).2).2).2).2).2).2).2).2).2).1) (el_at hml 0) (He.free_ok KX GX (c.fact 54 (f := .free "super") rfl)) rfl rfl (NdefX.nscope_by (by decide +kernel)) rfl rfl rfl rfl (fun env => ⟨_, rfl⟩) (fun _ _ _ _ _ _ us hl => match us, hl with | [_, _], _ => rfl) (ha2 rfl rfl (by decide))
theorem e_excB_BadTrain (KX : K.In base) (GX : base.Ns mainGlobals mg) (hxb : xb K = true) : ExcG K mg "BadTrain" := excG_of KX GX ((band (band (band (band (band (band (band (band (band (band (band (band (band (band (band (band (band (band (band (band (band (band (band (band (band (band (band hxb).2).2).2).2).2).2).2).2).2).2).2).2).2).2).2).2).2).2).2).2).2).2).2).2).2).2).2)
theorem tb_natural_of (hxb : xb K = true) : (tabK K ("natural_of", none)).isSome = true := ((band (band (band (band (band (band (band (band hxb).2).2).2).2).2).2).2).1)
theorem tb_fraction_of (hxb : xb K = true) : (tabK K ("fraction_of", none)).isSome = true := ((band (band (band (band (band (band (band (band (band hxb).2).2).2).2).2).2).2).2).1)
theorem tb_parse_train (hxb : xb K = true) : (tabK K ("parse_train", none)).isSome = true := ((band (band (band (band (band (band (band (band (band (band hxb).2).2).2).2).2).2).2).2).2).1)
theorem cst_ZERO (KX : K.In base) (GX : base.Ns mainGlobals mg) (c : He.SaysD fa fn K) (hxb : xb K = true) : CstG K mg "ZERO" PG.v_ZERO := cst_of KX GX ((band hxb).1)
theorem cst_FIGURES (KX : K.In base) (GX : base.Ns mainGlobals mg) (c : He.SaysD fa fn K) (hxb : xb K = true) : CstG K mg "FIGURES" PG.v_FIGURES := cst_of KX GX ((band (band hxb).2).1)
theorem cst_PART_MOST (KX : K.In base) (GX : base.Ns mainGlobals mg) (c : He.SaysD fa fn K) (hxb : xb K = true) : CstG K mg "PART_MOST" PG.v_PART_MOST := cst_of KX GX ((band (band (band hxb).2).2).1)
theorem cst_LONGEST (KX : K.In base) (GX : base.Ns mainGlobals mg) (c : He.SaysD fa fn K) (hxb : xb K = true) : CstG K mg "LONGEST" PG.v_LONGEST := cst_of KX GX ((band (band (band (band hxb).2).2).2).1)
theorem cst_ELEMENTS_MOST (KX : K.In base) (GX : base.Ns mainGlobals mg) (c : He.SaysD fa fn K) (hxb : xb K = true) : CstG K mg "ELEMENTS_MOST" PG.v_ELEMENTS_MOST := cst_of KX GX ((band (band (band (band (band hxb).2).2).2).2).1)
theorem cst_STOPS_MOST (KX : K.In base) (GX : base.Ns mainGlobals mg) (c : He.SaysD fa fn K) (hxb : xb K = true) : CstG K mg "STOPS_MOST" PG.v_STOPS_MOST := cst_of KX GX ((band (band (band (band (band (band hxb).2).2).2).2).2).1)
theorem cst_WORDS (KX : K.In base) (GX : base.Ns mainGlobals mg) (c : He.SaysD fa fn K) (hxb : xb K = true) : CstG K mg "WORDS" PG.v_WORDS := cst_of KX GX ((band (band (band (band (band (band (band hxb).2).2).2).2).2).2).1)
theorem sc_common_divisor : FnScope (["first", "second", "one", "other"] : List Str) (["first", "second"] : List Str) (defScope s_common_divisor) := ⟨rfl, rfl, rfl, by decide +kernel, rfl, by decide +kernel, by decide +kernel⟩
theorem d_common_divisor {X : Cx} (am : Amb 0 X) (hN : X.N.Nodup) (hc : X.calm = true) (hxe : PassesOwn (model X.prog X.w) X.A X.env X.xe) (eN : X.N = (["first", "second", "one", "other"] : List Str)) (eS : X.env.scope = defScope s_common_divisor) (hfn : ∀ x, X.fn x = true) (fr_abs : X.mg "abs" = none) : JSs X (defBody s_common_divisor) PG.w_common_divisor := by
  have hr := am.rm
  have n0 : X.N[0]? = some ("first" : Str) := by rw [eN]; rfl
  have v0 : SlotOk X 0 "first" := slot_of eS eN hfn rfl (.inl rfl)
  have n1 : X.N[1]? = some ("second" : Str) := by rw [eN]; rfl
  have v1 : SlotOk X 1 "second" := slot_of eS eN hfn rfl (.inl rfl)
  have n2 : X.N[2]? = some ("one" : Str) := by rw [eN]; rfl
  have v2 : SlotOk X 2 "one" := slot_of eS eN hfn rfl (.inl rfl)
  have n3 : X.N[3]? = some ("other" : Str) := by rw [eN]; rfl
  have v3 : SlotOk X 3 "other" := slot_of eS eN hfn rfl (.inl rfl)
  have gl_abs : Gl X "abs" := gl_of eS rfl
  exact (js_cons (js_st hN v2 (je_bi b_abs gl_abs fr_abs RT.boot_abs (ja_cons (je_v v0) ja_nil)))
  (js_cons (js_st hN v3 (je_bi b_abs gl_abs fr_abs RT.boot_abs (ja_cons (je_v v1) ja_nil)))
  (js_cons (js_while hxe (jt_cmp o_gt (je_v v3) je_int (nomark _))
  (js_one (js_par (i := 2) (j := 3) hc hN n2 n3 (by decide) (by rw [eS]; rfl) (by rw [eS]; rfl) (ja_cons (je_v v3) (ja_cons (je_op o_mod (je_v v2) (je_v v3)) ja_nil)) (swap_ok (by rw [eS]; rfl) (by rw [eS]; rfl) (by rw [eS]; rfl) (by decide) rfl rfl rfl (by decide +kernel) (by decide +kernel)))))
  (js_one (js_ret (je_v v2))))))
theorem g_common_divisor (KX : K.In base) (GX : base.Ns mainGlobals mg) (c : He.SaysD fa fn K) (hxb : xb K = true) (hns : BaseOk K mg base) (htr : P.given.tree = none) (hpr : PrgOk P file) (hml : el.map (fun d => mtW K d.x) = el.map ErD.val) : FnG P w K mg base "common_divisor" 1 PG.sp_common_divisor [] := by
  obtain ⟨fd, F⟩ := c.def_ 0 (d := dd_common_divisor) rfl
  unfold PG.sp_common_divisor
  exact mkG (N := (["first", "second", "one", "other"] : List Str)) false hns htr F (He.glo_ok KX GX (c.fact 0 (f := .glo "common_divisor") rfl)) sc_common_divisor rfl rfl (fun _ _ _ _ _ _ us hl => match us, hl with | [_, _], _ => rfl) (fun X cdv A outer s H E hX hcd am => by subst hX; exact d_common_divisor am sc_common_divisor.nd rfl PassesOwn.never rfl rfl (fun _ => rfl) (He.free_ok KX GX (c.fact 45 (f := .free "abs") rfl)))

theorem sc_fraction : FnScope (["numerator", "denominator", "divisor"] : List Str) (["numerator", "denominator"] : List Str) (defScope s_fraction) := ⟨rfl, rfl, rfl, by decide +kernel, rfl, by decide +kernel, by decide +kernel⟩
theorem d_fraction {X : Cx} (am : Amb 1 X) (hN : X.N.Nodup) (hc : X.calm = true) (hxe : PassesOwn (model X.prog X.w) X.A X.env X.xe) (eN : X.N = (["numerator", "denominator", "divisor"] : List Str)) (eS : X.env.scope = defScope s_fraction) (hfn : ∀ x, X.fn x = true) (G_common_divisor : FnG X.prog X.w X.K X.mg X.base "common_divisor" 1 PG.sp_common_divisor []) : JSs X (defBody s_fraction) PG.w_fraction := by
  have hr := am.rm
  have n0 : X.N[0]? = some ("numerator" : Str) := by rw [eN]; rfl
  have v0 : SlotOk X 0 "numerator" := slot_of eS eN hfn rfl (.inl rfl)
  have n1 : X.N[1]? = some ("denominator" : Str) := by rw [eN]; rfl
  have v1 : SlotOk X 1 "denominator" := slot_of eS eN hfn rfl (.inl rfl)
  have n2 : X.N[2]? = some ("divisor" : Str) := by rw [eN]; rfl
  have v2 : SlotOk X 2 "divisor" := slot_of eS eN hfn rfl (.inl rfl)
  have gl_common_divisor : Gl X "common_divisor" := gl_of eS rfl
  exact (js_cons (js_st hN v2 (je_cg G_common_divisor hr gl_common_divisor (ja_cons (je_v v0) (ja_cons (je_v v1) ja_nil))))
  (js_cons (js_if (jt_cmp o_lt (je_v v1) je_int (nomark _))
  (js_one (js_st hN v2 (je_neg (je_v v2))))
  js_nil)
  (js_one (js_ret (je_tup (ja_cons (je_op (o_fdiv am.py) (je_v v0) (je_v v2)) (ja_cons (je_op (o_fdiv am.py) (je_v v1) (je_v v2)) ja_nil)))))))
theorem g_fraction (KX : K.In base) (GX : base.Ns mainGlobals mg) (c : He.SaysD fa fn K) (hxb : xb K = true) (hns : BaseOk K mg base) (htr : P.given.tree = none) (hpr : PrgOk P file) (hml : el.map (fun d => mtW K d.x) = el.map ErD.val) : FnG P w K mg base "fraction" 2 PG.sp_fraction [] ∧ FnG P w K mg base "fraction" 2 PG.sp_fraction [.d (.int 1)] := by
  obtain ⟨fd, F⟩ := c.def_ 1 (d := dd_fraction) rfl
  unfold PG.sp_fraction
  exact mkGd (N := (["numerator", "denominator", "divisor"] : List Str)) (i := 1) false hns htr F (He.glo_ok KX GX (c.fact 1 (f := .glo "fraction") rfl)) sc_fraction rfl rfl (fun T kV doc pm an cdv ct us its hu hi => match us, hu, its, hi with | [_, _], _, [_], _ => ⟨_, rfl, rfl⟩) (fun T kV doc pm an cdv ct us its hu hi => match us, hu, its, hi with | [_], _, [_], _ => ⟨_, rfl, rfl⟩) (fun X cdv A outer s H E hX hcd am => by subst hX; exact d_fraction am sc_fraction.nd rfl PassesOwn.never rfl rfl (fun _ => rfl) (g_common_divisor (P := P) (w := w) KX GX c hxb hns htr hpr hml))

theorem sc_add : FnScope (["first", "second"] : List Str) (["first", "second"] : List Str) (defScope s_add) := ⟨rfl, rfl, rfl, by decide +kernel, rfl, by decide +kernel, by decide +kernel⟩
theorem d_add {X : Cx} (am : Amb 2 X) (hN : X.N.Nodup) (hc : X.calm = true) (hxe : PassesOwn (model X.prog X.w) X.A X.env X.xe) (eN : X.N = (["first", "second"] : List Str)) (eS : X.env.scope = defScope s_add) (hfn : ∀ x, X.fn x = true) (G_fraction : FnG X.prog X.w X.K X.mg X.base "fraction" 2 PG.sp_fraction []) : JSs X (defBody s_add) PG.w_add := by
  have hr := am.rm
  have n0 : X.N[0]? = some ("first" : Str) := by rw [eN]; rfl
  have v0 : SlotOk X 0 "first" := slot_of eS eN hfn rfl (.inl rfl)
  have n1 : X.N[1]? = some ("second" : Str) := by rw [eN]; rfl
  have v1 : SlotOk X 1 "second" := slot_of eS eN hfn rfl (.inl rfl)
  have gl_fraction : Gl X "fraction" := gl_of eS rfl
  exact (js_one (js_ret (je_cg G_fraction hr gl_fraction (ja_cons (je_op o_addA (je_op o_mul (je_ix (je_v v0) je_int) (je_ix (je_v v1) je_int)) (je_op o_mul (je_ix (je_v v1) je_int) (je_ix (je_v v0) je_int))) (ja_cons (je_op o_mul (je_ix (je_v v0) je_int) (je_ix (je_v v1) je_int)) ja_nil)))))
theorem g_add (KX : K.In base) (GX : base.Ns mainGlobals mg) (c : He.SaysD fa fn K) (hxb : xb K = true) (hns : BaseOk K mg base) (htr : P.given.tree = none) (hpr : PrgOk P file) (hml : el.map (fun d => mtW K d.x) = el.map ErD.val) : FnG P w K mg base "add" 3 PG.sp_add [] := by
  obtain ⟨fd, F⟩ := c.def_ 2 (d := dd_add) rfl
  unfold PG.sp_add
  exact mkG (N := (["first", "second"] : List Str)) false hns htr F (He.glo_ok KX GX (c.fact 2 (f := .glo "add") rfl)) sc_add rfl rfl (fun _ _ _ _ _ _ us hl => match us, hl with | [_, _], _ => rfl) (fun X cdv A outer s H E hX hcd am => by subst hX; exact d_add am sc_add.nd rfl PassesOwn.never rfl rfl (fun _ => rfl) (g_fraction (P := P) (w := w) KX GX c hxb hns htr hpr hml).1)

theorem sc_negative : FnScope (["value"] : List Str) (["value"] : List Str) (defScope s_negative) := ⟨rfl, rfl, rfl, by decide +kernel, rfl, by decide +kernel, by decide +kernel⟩
theorem d_negative {X : Cx} (am : Amb 0 X) (hN : X.N.Nodup) (hc : X.calm = true) (hxe : PassesOwn (model X.prog X.w) X.A X.env X.xe) (eN : X.N = (["value"] : List Str)) (eS : X.env.scope = defScope s_negative) (hfn : ∀ x, X.fn x = true) : JSs X (defBody s_negative) PG.w_negative := by
  have hr := am.rm
  have n0 : X.N[0]? = some ("value" : Str) := by rw [eN]; rfl
  have v0 : SlotOk X 0 "value" := slot_of eS eN hfn rfl (.inl rfl)
  exact (js_one (js_ret (je_tup (ja_cons (je_neg (je_ix (je_v v0) je_int)) (ja_cons (je_ix (je_v v0) je_int) ja_nil)))))
theorem g_negative (KX : K.In base) (GX : base.Ns mainGlobals mg) (c : He.SaysD fa fn K) (hxb : xb K = true) (hns : BaseOk K mg base) (htr : P.given.tree = none) (hpr : PrgOk P file) (hml : el.map (fun d => mtW K d.x) = el.map ErD.val) : FnG P w K mg base "negative" 1 PG.sp_negative [] := by
  obtain ⟨fd, F⟩ := c.def_ 3 (d := dd_negative) rfl
  unfold PG.sp_negative
  exact mkG (N := (["value"] : List Str)) false hns htr F (He.glo_ok KX GX (c.fact 3 (f := .glo "negative") rfl)) sc_negative rfl rfl (fun _ _ _ _ _ _ us hl => match us, hl with | [_], _ => rfl) (fun X cdv A outer s H E hX hcd am => by subst hX; exact d_negative am sc_negative.nd rfl PassesOwn.never rfl rfl (fun _ => rfl))

theorem sc_subtract : FnScope (["first", "second"] : List Str) (["first", "second"] : List Str) (defScope s_subtract) := ⟨rfl, rfl, rfl, by decide +kernel, rfl, by decide +kernel, by decide +kernel⟩
theorem d_subtract {X : Cx} (am : Amb 3 X) (hN : X.N.Nodup) (hc : X.calm = true) (hxe : PassesOwn (model X.prog X.w) X.A X.env X.xe) (eN : X.N = (["first", "second"] : List Str)) (eS : X.env.scope = defScope s_subtract) (hfn : ∀ x, X.fn x = true) (G_negative : FnG X.prog X.w X.K X.mg X.base "negative" 1 PG.sp_negative []) (G_add : FnG X.prog X.w X.K X.mg X.base "add" 3 PG.sp_add []) : JSs X (defBody s_subtract) PG.w_subtract := by
  have hr := am.rm
  have n0 : X.N[0]? = some ("first" : Str) := by rw [eN]; rfl
  have v0 : SlotOk X 0 "first" := slot_of eS eN hfn rfl (.inl rfl)
  have n1 : X.N[1]? = some ("second" : Str) := by rw [eN]; rfl
  have v1 : SlotOk X 1 "second" := slot_of eS eN hfn rfl (.inl rfl)
  have gl_negative : Gl X "negative" := gl_of eS rfl
  have gl_add : Gl X "add" := gl_of eS rfl
  exact (js_one (js_ret (je_cg G_add hr gl_add (ja_cons (je_v v0) (ja_cons (je_cg G_negative hr gl_negative (ja_cons (je_v v1) ja_nil)) ja_nil)))))
theorem g_subtract (KX : K.In base) (GX : base.Ns mainGlobals mg) (c : He.SaysD fa fn K) (hxb : xb K = true) (hns : BaseOk K mg base) (htr : P.given.tree = none) (hpr : PrgOk P file) (hml : el.map (fun d => mtW K d.x) = el.map ErD.val) : FnG P w K mg base "subtract" 4 PG.sp_subtract [] := by
  obtain ⟨fd, F⟩ := c.def_ 4 (d := dd_subtract) rfl
  unfold PG.sp_subtract
  exact mkG (N := (["first", "second"] : List Str)) false hns htr F (He.glo_ok KX GX (c.fact 4 (f := .glo "subtract") rfl)) sc_subtract rfl rfl (fun _ _ _ _ _ _ us hl => match us, hl with | [_, _], _ => rfl) (fun X cdv A outer s H E hX hcd am => by subst hX; exact d_subtract am sc_subtract.nd rfl PassesOwn.never rfl rfl (fun _ => rfl) (g_negative (P := P) (w := w) KX GX c hxb hns htr hpr hml) (g_add (P := P) (w := w) KX GX c hxb hns htr hpr hml))

theorem sc_sign : FnScope (["value"] : List Str) (["value"] : List Str) (defScope s_sign) := ⟨rfl, rfl, rfl, by decide +kernel, rfl, by decide +kernel, by decide +kernel⟩
theorem d_sign {X : Cx} (am : Amb 0 X) (hN : X.N.Nodup) (hc : X.calm = true) (hxe : PassesOwn (model X.prog X.w) X.A X.env X.xe) (eN : X.N = (["value"] : List Str)) (eS : X.env.scope = defScope s_sign) (hfn : ∀ x, X.fn x = true) : JSs X (defBody s_sign) PG.w_sign := by
  have hr := am.rm
  have n0 : X.N[0]? = some ("value" : Str) := by rw [eN]; rfl
  have v0 : SlotOk X 0 "value" := slot_of eS eN hfn rfl (.inl rfl)
  exact (js_cons (js_if (jt_cmp o_gt (je_ix (je_v v0) je_int) je_int (nomark _))
  (js_one (js_ret je_int))
  js_nil)
  (js_cons (js_if (jt_cmp o_lt (je_ix (je_v v0) je_int) je_int (nomark _))
  (js_one (js_ret (je_neg je_int)))
  js_nil)
  (js_one (js_ret je_int))))
theorem g_sign (KX : K.In base) (GX : base.Ns mainGlobals mg) (c : He.SaysD fa fn K) (hxb : xb K = true) (hns : BaseOk K mg base) (htr : P.given.tree = none) (hpr : PrgOk P file) (hml : el.map (fun d => mtW K d.x) = el.map ErD.val) : FnG P w K mg base "sign" 1 PG.sp_sign [] := by
  obtain ⟨fd, F⟩ := c.def_ 5 (d := dd_sign) rfl
  unfold PG.sp_sign
  exact mkG (N := (["value"] : List Str)) false hns htr F (He.glo_ok KX GX (c.fact 5 (f := .glo "sign") rfl)) sc_sign rfl rfl (fun _ _ _ _ _ _ us hl => match us, hl with | [_], _ => rfl) (fun X cdv A outer s H E hX hcd am => by subst hX; exact d_sign am sc_sign.nd rfl PassesOwn.never rfl rfl (fun _ => rfl))

theorem sc_compare : FnScope (["first", "second"] : List Str) (["first", "second"] : List Str) (defScope s_compare) := ⟨rfl, rfl, rfl, by decide +kernel, rfl, by decide +kernel, by decide +kernel⟩
theorem d_compare {X : Cx} (am : Amb 4 X) (hN : X.N.Nodup) (hc : X.calm = true) (hxe : PassesOwn (model X.prog X.w) X.A X.env X.xe) (eN : X.N = (["first", "second"] : List Str)) (eS : X.env.scope = defScope s_compare) (hfn : ∀ x, X.fn x = true) (G_subtract : FnG X.prog X.w X.K X.mg X.base "subtract" 4 PG.sp_subtract []) (G_sign : FnG X.prog X.w X.K X.mg X.base "sign" 1 PG.sp_sign []) : JSs X (defBody s_compare) PG.w_compare := by
  have hr := am.rm
  have n0 : X.N[0]? = some ("first" : Str) := by rw [eN]; rfl
  have v0 : SlotOk X 0 "first" := slot_of eS eN hfn rfl (.inl rfl)
  have n1 : X.N[1]? = some ("second" : Str) := by rw [eN]; rfl
  have v1 : SlotOk X 1 "second" := slot_of eS eN hfn rfl (.inl rfl)
  have gl_subtract : Gl X "subtract" := gl_of eS rfl
  have gl_sign : Gl X "sign" := gl_of eS rfl
  exact (js_one (js_ret (je_cg G_sign hr gl_sign (ja_cons (je_cg G_subtract hr gl_subtract (ja_cons (je_v v0) (ja_cons (je_v v1) ja_nil))) ja_nil))))
theorem g_compare (KX : K.In base) (GX : base.Ns mainGlobals mg) (c : He.SaysD fa fn K) (hxb : xb K = true) (hns : BaseOk K mg base) (htr : P.given.tree = none) (hpr : PrgOk P file) (hml : el.map (fun d => mtW K d.x) = el.map ErD.val) : FnG P w K mg base "compare" 5 PG.sp_compare [] := by
  obtain ⟨fd, F⟩ := c.def_ 6 (d := dd_compare) rfl
  unfold PG.sp_compare
  exact mkG (N := (["first", "second"] : List Str)) false hns htr F (He.glo_ok KX GX (c.fact 6 (f := .glo "compare") rfl)) sc_compare rfl rfl (fun _ _ _ _ _ _ us hl => match us, hl with | [_, _], _ => rfl) (fun X cdv A outer s H E hX hcd am => by subst hX; exact d_compare am sc_compare.nd rfl PassesOwn.never rfl rfl (fun _ => rfl) (g_subtract (P := P) (w := w) KX GX c hxb hns htr hpr hml) (g_sign (P := P) (w := w) KX GX c hxb hns htr hpr hml))

theorem sc_is_less : FnScope (["first", "second"] : List Str) (["first", "second"] : List Str) (defScope s_is_less) := ⟨rfl, rfl, rfl, by decide +kernel, rfl, by decide +kernel, by decide +kernel⟩
theorem d_is_less {X : Cx} (am : Amb 5 X) (hN : X.N.Nodup) (hc : X.calm = true) (hxe : PassesOwn (model X.prog X.w) X.A X.env X.xe) (eN : X.N = (["first", "second"] : List Str)) (eS : X.env.scope = defScope s_is_less) (hfn : ∀ x, X.fn x = true) (G_compare : FnG X.prog X.w X.K X.mg X.base "compare" 5 PG.sp_compare []) : JSs X (defBody s_is_less) PG.w_is_less := by
  have hr := am.rm
  have n0 : X.N[0]? = some ("first" : Str) := by rw [eN]; rfl
  have v0 : SlotOk X 0 "first" := slot_of eS eN hfn rfl (.inl rfl)
  have n1 : X.N[1]? = some ("second" : Str) := by rw [eN]; rfl
  have v1 : SlotOk X 1 "second" := slot_of eS eN hfn rfl (.inl rfl)
  have gl_compare : Gl X "compare" := gl_of eS rfl
  exact (js_one (js_ret (je_cmp o_lt (je_cg G_compare hr gl_compare (ja_cons (je_v v0) (ja_cons (je_v v1) ja_nil))) je_int (nomark _))))
theorem g_is_less (KX : K.In base) (GX : base.Ns mainGlobals mg) (c : He.SaysD fa fn K) (hxb : xb K = true) (hns : BaseOk K mg base) (htr : P.given.tree = none) (hpr : PrgOk P file) (hml : el.map (fun d => mtW K d.x) = el.map ErD.val) : FnG P w K mg base "is_less" 6 PG.sp_is_less [] := by
  obtain ⟨fd, F⟩ := c.def_ 7 (d := dd_is_less) rfl
  unfold PG.sp_is_less
  exact mkG (N := (["first", "second"] : List Str)) false hns htr F (He.glo_ok KX GX (c.fact 7 (f := .glo "is_less") rfl)) sc_is_less rfl rfl (fun _ _ _ _ _ _ us hl => match us, hl with | [_, _], _ => rfl) (fun X cdv A outer s H E hX hcd am => by subst hX; exact d_is_less am sc_is_less.nd rfl PassesOwn.never rfl rfl (fun _ => rfl) (g_compare (P := P) (w := w) KX GX c hxb hns htr hpr hml))

theorem sc_tokens_of : FnScope (["text", "tokens", "word", "sign"] : List Str) (["text"] : List Str) (defScope s_tokens_of) := ⟨rfl, rfl, rfl, by decide +kernel, rfl, by decide +kernel, by decide +kernel⟩
theorem d_tokens_of {X : Cx} (am : Amb 0 X) (hN : X.N.Nodup) (hc : X.calm = true) (hxe : PassesOwn (model X.prog X.w) X.A X.env X.xe) (eN : X.N = (["text", "tokens", "word", "sign"] : List Str)) (eS : X.env.scope = defScope s_tokens_of) (hfn : ∀ x, X.fn x = true) : JSs X (defBody s_tokens_of) PG.w_tokens_of := by
  have hr := am.rm
  have n0 : X.N[0]? = some ("text" : Str) := by rw [eN]; rfl
  have v0 : SlotOk X 0 "text" := slot_of eS eN hfn rfl (.inl rfl)
  have n1 : X.N[1]? = some ("tokens" : Str) := by rw [eN]; rfl
  have v1 : SlotOk X 1 "tokens" := slot_of eS eN hfn rfl (.inl rfl)
  have n2 : X.N[2]? = some ("word" : Str) := by rw [eN]; rfl
  have v2 : SlotOk X 2 "word" := slot_of eS eN hfn rfl (.inl rfl)
  have n3 : X.N[3]? = some ("sign" : Str) := by rw [eN]; rfl
  have v3 : SlotOk X 3 "sign" := slot_of eS eN hfn rfl (.inl rfl)
  exact (js_cons (js_st hN v1 (je_lstO ja_nil))
  (js_cons (js_st hN v2 je_str)
  (js_cons (js_for hxe hc (ji_sgn (je_op o_addA (je_v v0) je_str)) (jg_of (pg_v hN v3))
  (js_one (js_if (jw_pt (jw_or (jt_cmp (o_eq hr) (je_v v3) je_str (nomark _)) (jw_or1 (jt_cmp (o_eq hr) (je_v v3) je_str (nomark _)))))
  (js_cons (js_if (jt_cmp (o_ne hr) (je_v v2) je_str (nomark _))
  (js_one (js_do (je_meth PySem.F.slot_list_append PySem.F.type_list_append m_append (je_v v1) (ja_cons (je_v v2) ja_nil))))
  js_nil)
  (js_cons (js_st hN v2 je_str)
  (js_one (js_if (jt_cmp (o_eq hr) (je_v v3) je_str (nomark _))
  (js_one (js_do (je_meth PySem.F.slot_list_append PySem.F.type_list_append m_append (je_v v1) (ja_cons (je_v v3) ja_nil))))
  js_nil))))
  (js_one (js_augS (i := 2) hN v2.hN v2.hl (je_v v3) v2.hf)))))
  (js_one (js_ret (je_v v1))))))
theorem g_tokens_of (KX : K.In base) (GX : base.Ns mainGlobals mg) (c : He.SaysD fa fn K) (hxb : xb K = true) (hns : BaseOk K mg base) (htr : P.given.tree = none) (hpr : PrgOk P file) (hml : el.map (fun d => mtW K d.x) = el.map ErD.val) : FnG P w K mg base "tokens_of" 1 PG.sp_tokens_of [] := by
  obtain ⟨fd, F⟩ := c.def_ 8 (d := dd_tokens_of) rfl
  unfold PG.sp_tokens_of
  exact mkG (N := (["text", "tokens", "word", "sign"] : List Str)) false hns htr F (He.glo_ok KX GX (c.fact 8 (f := .glo "tokens_of") rfl)) sc_tokens_of rfl rfl (fun _ _ _ _ _ _ us hl => match us, hl with | [_], _ => rfl) (fun X cdv A outer s H E hX hcd am => by subst hX; exact d_tokens_of am sc_tokens_of.nd rfl PassesOwn.never rfl rfl (fun _ => rfl))

theorem sc_natural_of : FnScope (["word", "number", "sign"] : List Str) (["word"] : List Str) (defScope s_natural_of) := ⟨rfl, rfl, rfl, by decide +kernel, rfl, by decide +kernel, by decide +kernel⟩
theorem d_natural_of {X : Cx} (am : Amb 1 X) (hN : X.N.Nodup) (hc : X.calm = true) (hxe : PassesOwn (model X.prog X.w) X.A X.env X.xe) (eN : X.N = (["word", "number", "sign"] : List Str)) (eS : X.env.scope = defScope s_natural_of) (hfn : ∀ x, X.fn x = true) (ig : InGen X) (fr_len : X.mg "len" = none) (fr_all : X.mg "all" = none) (fr_int : X.mg "int" = none) (C_LONGEST : CstG X.K X.mg "LONGEST" PG.v_LONGEST) (C_FIGURES : CstG X.K X.mg "FIGURES" PG.v_FIGURES) (C_PART_MOST : CstG X.K X.mg "PART_MOST" PG.v_PART_MOST) : JSs X (defBody s_natural_of) PG.w_natural_of := by
  have hr := am.rm
  have n0 : X.N[0]? = some ("word" : Str) := by rw [eN]; rfl
  have v0 : SlotOk X 0 "word" := slot_of eS eN hfn rfl (.inl rfl)
  have n1 : X.N[1]? = some ("number" : Str) := by rw [eN]; rfl
  have v1 : SlotOk X 1 "number" := slot_of eS eN hfn rfl (.inl rfl)
  have n2 : X.N[2]? = some ("sign" : Str) := by rw [eN]; rfl
  have gl_len : Gl X "len" := gl_of eS rfl
  have gl_LONGEST : Gl X "LONGEST" := gl_of eS rfl
  have gl_all : Gl X "all" := gl_of eS rfl
  have gl_int : Gl X "int" := gl_of eS rfl
  have gl_PART_MOST : Gl X "PART_MOST" := gl_of eS rfl
  exact (js_cons (js_if (jw_pt (jw_or (jt_cmp (o_eq hr) (je_v v0) je_str (nomark _)) (jw_or (jt_cmp o_gt (je_bi b_len gl_len fr_len RT.boot_len (ja_cons (je_v v0) ja_nil)) (je_glob ⟨gl_LONGEST, C_LONGEST, by decide⟩) (nomark _)) (jw_or (jt_cmp (o_eq hr) (je_ix (je_v v0) je_int) je_str (nomark _)) (jw_or1 (jt_not (jt_tru (je_all am ig (gsc_of (by decide +kernel)) gl_all fr_all (own' := [("sign", 2)]) (by decide) hc hN (ji_sgn (je_v v0)) (blk_of eN eS (own := [("sign", 2)]) (by decide +kernel)) (fun s H C code cl fp A' hA => (jg_of (pg_name (i := 2) hN n2 (by first | exact .inl rfl | exact .inr rfl)))) (fun s H C code cl fp A' hA => (je_cmp o_inS (je_var 2 n2 (hv := .inl rfl)) (je_glob ⟨(by rfl), C_FIGURES, by decide⟩) rfl))))))))))
  (js_one (js_ret je_non))
  js_nil)
  (js_cons (js_st hN v1 (je_bty b_intS gl_int fr_int RT.boot_int (ja_cons (je_v v0) ja_nil)))
  (js_cons (js_if (jt_cmp o_gt (je_v v1) (je_glob ⟨gl_PART_MOST, C_PART_MOST, by decide⟩) (nomark _))
  (js_one (js_ret je_non))
  js_nil)
  (js_one (js_ret (je_v v1))))))
theorem g_natural_of (KX : K.In base) (GX : base.Ns mainGlobals mg) (c : He.SaysD fa fn K) (hxb : xb K = true) (hns : BaseOk K mg base) (htr : P.given.tree = none) (hpr : PrgOk P file) (hml : el.map (fun d => mtW K d.x) = el.map ErD.val) : FnG P w K mg base "natural_of" 2 PG.sp_natural_of [] := by
  obtain ⟨fd, F⟩ := c.def_ 9 (d := dd_natural_of) rfl
  unfold PG.sp_natural_of
  exact mkG (N := (["word", "number", "sign"] : List Str)) false hns htr F (He.glo_ok KX GX (c.fact 9 (f := .glo "natural_of") rfl)) sc_natural_of rfl rfl (fun _ _ _ _ _ _ us hl => match us, hl with | [_], _ => rfl) (fun X cdv A outer s H E hX hcd am => by subst hX; exact d_natural_of am sc_natural_of.nd rfl PassesOwn.never rfl rfl (fun _ => rfl) (ingen_of (p := ("natural_of", none)) hcd (by decide) (tb_natural_of (K := K) hxb)) (He.free_ok KX GX (c.fact 46 (f := .free "len") rfl)) (He.free_ok KX GX (c.fact 47 (f := .free "all") rfl)) (He.free_ok KX GX (c.fact 48 (f := .free "int") rfl)) (cst_LONGEST KX GX c hxb) (cst_FIGURES KX GX c hxb) (cst_PART_MOST KX GX c hxb))

theorem sc_fraction_of : FnScope (["word", "unsigned", "parts", "numbers", "numerator", "part", "number"] : List Str) (["word"] : List Str) (defScope s_fraction_of) := ⟨rfl, rfl, rfl, by decide +kernel, rfl, by decide +kernel, by decide +kernel⟩
theorem d_fraction_of {X : Cx} (am : Amb 3 X) (hN : X.N.Nodup) (hc : X.calm = true) (hxe : PassesOwn (model X.prog X.w) X.A X.env X.xe) (eN : X.N = (["word", "unsigned", "parts", "numbers", "numerator", "part", "number"] : List Str)) (eS : X.env.scope = defScope s_fraction_of) (hfn : ∀ x, X.fn x = true) (ig : InGen X) (fr_len : X.mg "len" = none) (fr_any : X.mg "any" = none) (G_natural_of : FnG X.prog X.w X.K X.mg X.base "natural_of" 2 PG.sp_natural_of []) (G_fraction : FnG X.prog X.w X.K X.mg X.base "fraction" 2 PG.sp_fraction []) (C_ZERO : CstG X.K X.mg "ZERO" PG.v_ZERO) : JSs X (defBody s_fraction_of) PG.w_fraction_of := by
  have hr := am.rm
  have n0 : X.N[0]? = some ("word" : Str) := by rw [eN]; rfl
  have v0 : SlotOk X 0 "word" := slot_of eS eN hfn rfl (.inl rfl)
  have n1 : X.N[1]? = some ("unsigned" : Str) := by rw [eN]; rfl
  have v1 : SlotOk X 1 "unsigned" := slot_of eS eN hfn rfl (.inl rfl)
  have n2 : X.N[2]? = some ("parts" : Str) := by rw [eN]; rfl
  have v2 : SlotOk X 2 "parts" := slot_of eS eN hfn rfl (.inl rfl)
  have n3 : X.N[3]? = some ("numbers" : Str) := by rw [eN]; rfl
  have v3 : SlotOk X 3 "numbers" := slot_of eS eN hfn rfl (.inl rfl)
  have n4 : X.N[4]? = some ("numerator" : Str) := by rw [eN]; rfl
  have v4 : SlotOk X 4 "numerator" := slot_of eS eN hfn rfl (.inl rfl)
  have n5 : X.N[5]? = some ("part" : Str) := by rw [eN]; rfl
  have n6 : X.N[6]? = some ("number" : Str) := by rw [eN]; rfl
  have gl_ZERO : Gl X "ZERO" := gl_of eS rfl
  have gl_len : Gl X "len" := gl_of eS rfl
  have gl_any : Gl X "any" := gl_of eS rfl
  have gl_fraction : Gl X "fraction" := gl_of eS rfl
  exact (js_cons (js_if (jt_cmp (o_eq hr) (je_v v0) je_str (nomark _))
  (js_one (js_ret (je_glob ⟨gl_ZERO, C_ZERO, by decide⟩)))
  js_nil)
  (js_cons (js_st hN v1 (je_v v0))
  (js_cons (js_if (jt_cmp (o_eq hr) (je_slS (je_v v0) jo_none (jo_some je_int)) je_str (nomark _))
  (js_one (js_st hN v1 (je_slS (je_v v0) (jo_some je_int) jo_none)))
  js_nil)
  (js_cons (js_st hN v2 (je_split (je_v v1) je_str))
  (js_cons (js_if (jt_cmp o_gt (je_bi b_len gl_len fr_len RT.boot_len (ja_cons (je_v v2) ja_nil)) je_int (nomark _))
  (js_one (js_ret je_non))
  js_nil)
  (js_cons (js_setLc false (i := 3) (own' := [("part", 5)]) (by decide) hc hN n3 (by rw [eS]; rfl) (sw_true (by rw [eS]; rfl) (by rw [eS]; rfl) rfl (by decide +kernel)) (ji_any (je_v v2)) (blk_of eN eS (own := [("part", 5)]) (by decide +kernel)) (fun s H C cl fp => (jg_of (pg_name (i := 5) hN n5 (by first | exact .inl rfl | exact .inr rfl)))) (fun s H C cl fp => jts_nil) (fun s H C cl fp => (je_cg G_natural_of hr (by rfl) (ja_cons (je_var 5 n5 (hv := (by first | exact Or.inl rfl | exact Or.inr (Or.inl rfl) | exact vis_free (by decide +kernel)))) ja_nil))))
  (js_cons (js_if (jt_tru (je_any am ig (gsc_of (by decide +kernel)) gl_any fr_any (own' := [("number", 6)]) (by decide) hc hN (ji_any (je_v v3)) (blk_of eN eS (own := [("number", 6)]) (by decide +kernel)) (fun s H C code cl fp A' hA => (jg_of (pg_name (i := 6) hN n6 (by first | exact .inl rfl | exact .inr rfl)))) (fun s H C code cl fp A' hA => (je_isN (je_var 6 n6 (hv := .inl rfl))))))
  (js_one (js_ret je_non))
  js_nil)
  (js_cons (js_st hN v4 (je_ix (je_v v3) je_int))
  (js_cons (js_if (jt_cmp (o_eq hr) (je_slS (je_v v0) jo_none (jo_some je_int)) je_str (nomark _))
  (js_one (js_st hN v4 (je_neg (je_v v4))))
  js_nil)
  (js_one (js_ret (je_cg G_fraction hr gl_fraction (ja_cons (je_v v4) (ja_cons (je_ix (je_op o_addA (je_v v3) (je_lst (ja_cons je_int ja_nil))) je_int) ja_nil))))))))))))))
theorem g_fraction_of (KX : K.In base) (GX : base.Ns mainGlobals mg) (c : He.SaysD fa fn K) (hxb : xb K = true) (hns : BaseOk K mg base) (htr : P.given.tree = none) (hpr : PrgOk P file) (hml : el.map (fun d => mtW K d.x) = el.map ErD.val) : FnG P w K mg base "fraction_of" 4 PG.sp_fraction_of [] := by
  obtain ⟨fd, F⟩ := c.def_ 10 (d := dd_fraction_of) rfl
  unfold PG.sp_fraction_of
  exact mkG (N := (["word", "unsigned", "parts", "numbers", "numerator", "part", "number"] : List Str)) false hns htr F (He.glo_ok KX GX (c.fact 10 (f := .glo "fraction_of") rfl)) sc_fraction_of rfl rfl (fun _ _ _ _ _ _ us hl => match us, hl with | [_], _ => rfl) (fun X cdv A outer s H E hX hcd am => by subst hX; exact d_fraction_of am sc_fraction_of.nd rfl PassesOwn.never rfl rfl (fun _ => rfl) (ingen_of (p := ("fraction_of", none)) hcd (by decide) (tb_fraction_of (K := K) hxb)) (He.free_ok KX GX (c.fact 46 (f := .free "len") rfl)) (He.free_ok KX GX (c.fact 49 (f := .free "any") rfl)) (g_natural_of (P := P) (w := w) KX GX c hxb hns htr hpr hml) (g_fraction (P := P) (w := w) KX GX c hxb hns htr hpr hml).1 (cst_ZERO KX GX c hxb))

theorem sc_Reader___init__ : FnScope (["self", "text"] : List Str) (["self", "text"] : List Str) (defScope s_Reader___init__) := ⟨rfl, rfl, rfl, by decide +kernel, rfl, by decide +kernel, by decide +kernel⟩
theorem d_Reader___init__ {X : Cx} {Wx : WX} (tk : Takes X Wx) (am : Amb 1 X) (hN : X.N.Nodup) (hc : X.calm = true) (hxe : PassesOwn (model X.prog X.w) X.A X.env X.xe) (eN : X.N = (["self", "text"] : List Str)) (eS : X.env.scope = defScope s_Reader___init__) (hfn : ∀ x, X.fn x = true) (hsk : X.stack = X.env :: X.outer) (hfl : X.env.frame = some X.env.locals) (G_tokens_of : FnG X.prog X.w X.K X.mg X.base "tokens_of" 1 PG.sp_tokens_of []) (CO_Reader : ClsO X.K "Reader") (NO_Reader_tokens : NoaO X.K "Reader" "tokens") (NO_Reader_place : NoaO X.K "Reader" "place") : JSOs X Wx (defBody s_Reader___init__) PG.w_Reader___init__ := by
  have hr := am.rm
  have n0 : X.N[0]? = some ("self" : Str) := by rw [eN]; rfl
  have v0 : SlotOk X 0 "self" := slot_of eS eN hfn rfl (.inl rfl)
  have n1 : X.N[1]? = some ("text" : Str) := by rw [eN]; rfl
  have v1 : SlotOk X 1 "text" := slot_of eS eN hfn rfl (.inl rfl)
  have gl_tokens_of : Gl X "tokens_of" := gl_of eS rfl
  exact (so_cons (so_fld CO_Reader NO_Reader_tokens v0.hN v0.vis (eo_of (fun os => by letI : Ghost := gho X.K os; exact (je_cg G_tokens_of hr gl_tokens_of (ja_cons (je_v v1) ja_nil)))))
  (so_one (so_fld CO_Reader NO_Reader_place v0.hN v0.vis (eo_of (fun os => by letI : Ghost := gho X.K os; exact je_int)))))
theorem o_Reader___init__ (KX : K.In base) (GX : base.Ns mainGlobals mg) (c : He.SaysD fa fn K) (hxb : xb K = true) (hns : BaseOk K mg base) (htr : P.given.tree = none) (hpr : PrgOk P file) (hml : el.map (fun d => mtW K d.x) = el.map ErD.val) : MkO P w K mg base "Reader" 2 PG.sp_Reader___init__ := by
  obtain ⟨fd, F⟩ := c.def_ 11 (d := dd_Reader___init__) rfl
  unfold PG.sp_Reader___init__
  exact mkO_of KX GX (c.fact 55 (f := .glo "Reader") rfl) (c.fact 57 (f := .mkr "Reader") rfl) (fnO_of (N := (["self", "text"] : List Str)) hns htr F sc_Reader___init__ rfl rfl (by decide) (fun X Wx cdv A outer s H E hX tk hcd am => by subst hX; exact d_Reader___init__ tk am sc_Reader___init__.nd rfl (passes_of rfl) rfl rfl (fun _ => rfl) rfl rfl (g_tokens_of (P := P) (w := w) KX GX c hxb hns htr hpr hml) (clsO_of (c.fact 55 (f := .glo "Reader") rfl) (c.fact 56 (f := .cls "Reader") rfl)) (noaO_of (c.fact 55 (f := .glo "Reader") rfl) (c.fact 58 (f := .noat "Reader" "tokens") rfl)) (noaO_of (c.fact 55 (f := .glo "Reader") rfl) (c.fact 59 (f := .noat "Reader" "place") rfl)))) (F.bindsN (fun _ _ _ _ _ _ us hl => match us, hl with | [_, _], _ => rfl))

theorem sc_Reader_is_next : FnScope (["self", "word"] : List Str) (["self", "word"] : List Str) (defScope s_Reader_is_next) := ⟨rfl, rfl, rfl, by decide +kernel, rfl, by decide +kernel, by decide +kernel⟩
theorem d_Reader_is_next {X : Cx} {Wx : WX} (tk : Takes X Wx) (am : Amb 0 X) (hN : X.N.Nodup) (hc : X.calm = true) (hxe : PassesOwn (model X.prog X.w) X.A X.env X.xe) (eN : X.N = (["self", "word"] : List Str)) (eS : X.env.scope = defScope s_Reader_is_next) (hfn : ∀ x, X.fn x = true) (hsk : X.stack = X.env :: X.outer) (hfl : X.env.frame = some X.env.locals) (CO_Reader : ClsO X.K "Reader") (NO_Reader_tokens : NoaO X.K "Reader" "tokens") (NO_Reader_place : NoaO X.K "Reader" "place") : JSOs X Wx (defBody s_Reader_is_next) PG.w_Reader_is_next := by
  have hr := am.rm
  have n0 : X.N[0]? = some ("self" : Str) := by rw [eN]; rfl
  have v0 : SlotOk X 0 "self" := slot_of eS eN hfn rfl (.inl rfl)
  have n1 : X.N[1]? = some ("word" : Str) := by rw [eN]; rfl
  have v1 : SlotOk X 1 "word" := slot_of eS eN hfn rfl (.inl rfl)
  exact (so_cons (so_if (to_of (fun os => by letI : Ghost := gho X.K os; exact (jt_cmp (o_eq hr) (je_sl false (je_fld CO_Reader NO_Reader_tokens (je_v v0)) (jo_some (je_fld CO_Reader NO_Reader_place (je_v v0))) (jo_some (je_op o_addA (je_fld CO_Reader NO_Reader_place (je_v v0)) je_int))) (je_lst (ja_cons (je_v v1) ja_nil)) (nomark _))))
  (so_cons (so_fldadd CO_Reader NO_Reader_place v0.hN v0.vis)
  (so_one (so_of (fun os => by letI : Ghost := gho X.K os; exact (js_ret je_bl)))))
  so_nil)
  (so_one (so_of (fun os => by letI : Ghost := gho X.K os; exact (js_ret je_bl)))))
theorem o_Reader_is_next (KX : K.In base) (GX : base.Ns mainGlobals mg) (c : He.SaysD fa fn K) (hxb : xb K = true) (hns : BaseOk K mg base) (htr : P.given.tree = none) (hpr : PrgOk P file) (hml : el.map (fun d => mtW K d.x) = el.map ErD.val) : MthO P w K mg base "Reader" "is_next" 1 PG.sp_Reader_is_next := by
  obtain ⟨fd, F⟩ := c.def_ 12 (d := dd_Reader_is_next) rfl
  unfold PG.sp_Reader_is_next
  exact mthO_of (c.fact 55 (f := .glo "Reader") rfl) (c.fact 56 (f := .cls "Reader") rfl) (c.fact 60 (f := .meth "Reader" "is_next") rfl) (fnO_of (N := (["self", "word"] : List Str)) hns htr F sc_Reader_is_next rfl rfl (by decide) (fun X Wx cdv A outer s H E hX tk hcd am => by subst hX; exact d_Reader_is_next tk am sc_Reader_is_next.nd rfl (passes_of rfl) rfl rfl (fun _ => rfl) rfl rfl (clsO_of (c.fact 55 (f := .glo "Reader") rfl) (c.fact 56 (f := .cls "Reader") rfl)) (noaO_of (c.fact 55 (f := .glo "Reader") rfl) (c.fact 58 (f := .noat "Reader" "tokens") rfl)) (noaO_of (c.fact 55 (f := .glo "Reader") rfl) (c.fact 59 (f := .noat "Reader" "place") rfl)))) (F.bindsN (fun _ _ _ _ _ _ us hl => match us, hl with | [_, _], _ => rfl))

theorem sc_Reader_token : FnScope (["self"] : List Str) (["self"] : List Str) (defScope s_Reader_token) := ⟨rfl, rfl, rfl, by decide +kernel, rfl, by decide +kernel, by decide +kernel⟩
theorem d_Reader_token {X : Cx} {Wx : WX} (tk : Takes X Wx) (am : Amb 2 X) (hN : X.N.Nodup) (hc : X.calm = true) (hxe : PassesOwn (model X.prog X.w) X.A X.env X.xe) (eN : X.N = (["self"] : List Str)) (eS : X.env.scope = defScope s_Reader_token) (hfn : ∀ x, X.fn x = true) (hsk : X.stack = X.env :: X.outer) (hfl : X.env.frame = some X.env.locals) (fr_len : X.mg "len" = none) (CO_Reader : ClsO X.K "Reader") (NO_Reader_place : NoaO X.K "Reader" "place") (NO_Reader_tokens : NoaO X.K "Reader" "tokens") (E_excB_EndError : ExcG X.K X.mg "EndError") : JSOs X Wx (defBody s_Reader_token) PG.w_Reader_token := by
  have hr := am.rm
  have n0 : X.N[0]? = some ("self" : Str) := by rw [eN]; rfl
  have v0 : SlotOk X 0 "self" := slot_of eS eN hfn rfl (.inl rfl)
  have gl_len : Gl X "len" := gl_of eS rfl
  have gl_EndError : Gl X "EndError" := gl_of eS rfl
  exact (so_cons (so_if (to_of (fun os => by letI : Ghost := gho X.K os; exact (jt_cmp (o_eq hr) (je_fld CO_Reader NO_Reader_place (je_v v0)) (je_bi b_len gl_len fr_len RT.boot_len (ja_cons (je_fld CO_Reader NO_Reader_tokens (je_v v0)) ja_nil)) (nomark _))))
  (so_one (so_raise0 E_excB_EndError rfl hc tk gl_EndError))
  so_nil)
  (so_cons (so_fldadd CO_Reader NO_Reader_place v0.hN v0.vis)
  (so_one (so_of (fun os => by letI : Ghost := gho X.K os; exact (js_ret (je_ix (je_fld CO_Reader NO_Reader_tokens (je_v v0)) (je_op o_sub (je_fld CO_Reader NO_Reader_place (je_v v0)) je_int))))))))
theorem o_Reader_token (KX : K.In base) (GX : base.Ns mainGlobals mg) (c : He.SaysD fa fn K) (hxb : xb K = true) (hns : BaseOk K mg base) (htr : P.given.tree = none) (hpr : PrgOk P file) (hml : el.map (fun d => mtW K d.x) = el.map ErD.val) : MthO P w K mg base "Reader" "token" 3 PG.sp_Reader_token := by
  obtain ⟨fd, F⟩ := c.def_ 13 (d := dd_Reader_token) rfl
  unfold PG.sp_Reader_token
  exact mthO_of (c.fact 55 (f := .glo "Reader") rfl) (c.fact 56 (f := .cls "Reader") rfl) (c.fact 61 (f := .meth "Reader" "token") rfl) (fnO_of (N := (["self"] : List Str)) hns htr F sc_Reader_token rfl rfl (by decide) (fun X Wx cdv A outer s H E hX tk hcd am => by subst hX; exact d_Reader_token tk am sc_Reader_token.nd rfl (passes_of rfl) rfl rfl (fun _ => rfl) rfl rfl (He.free_ok KX GX (c.fact 46 (f := .free "len") rfl)) (clsO_of (c.fact 55 (f := .glo "Reader") rfl) (c.fact 56 (f := .cls "Reader") rfl)) (noaO_of (c.fact 55 (f := .glo "Reader") rfl) (c.fact 59 (f := .noat "Reader" "place") rfl)) (noaO_of (c.fact 55 (f := .glo "Reader") rfl) (c.fact 58 (f := .noat "Reader" "tokens") rfl)) (e_excB_EndError KX GX hxb))) (F.bindsN (fun _ _ _ _ _ _ us hl => match us, hl with | [_], _ => rfl))

theorem sc_Reader_number : FnScope (["self", "found"] : List Str) (["self"] : List Str) (defScope s_Reader_number) := ⟨rfl, rfl, rfl, by decide +kernel, rfl, by decide +kernel, by decide +kernel⟩
theorem d_Reader_number {X : Cx} {Wx : WX} (tk : Takes X Wx) (am : Amb 4 X) (hN : X.N.Nodup) (hc : X.calm = true) (hxe : PassesOwn (model X.prog X.w) X.A X.env X.xe) (eN : X.N = (["self", "found"] : List Str)) (eS : X.env.scope = defScope s_Reader_number) (hfn : ∀ x, X.fn x = true) (hsk : X.stack = X.env :: X.outer) (hfl : X.env.frame = some X.env.locals) (G_fraction_of : FnG X.prog X.w X.K X.mg X.base "fraction_of" 4 PG.sp_fraction_of []) (O_Reader_token : MthO X.prog X.w X.K X.mg X.base "Reader" "token" 3 PG.sp_Reader_token) (CO_Reader : ClsO X.K "Reader") (NO_Reader_place : NoaO X.K "Reader" "place") (E_einB_TokenError : ErrI X.prog X.w X.K X.mg X.base "TokenError" 1) : JSOs X Wx (defBody s_Reader_number) PG.w_Reader_number := by
  have hr := am.rm
  have n0 : X.N[0]? = some ("self" : Str) := by rw [eN]; rfl
  have v0 : SlotOk X 0 "self" := slot_of eS eN hfn rfl (.inl rfl)
  have n1 : X.N[1]? = some ("found" : Str) := by rw [eN]; rfl
  have v1 : SlotOk X 1 "found" := slot_of eS eN hfn rfl (.inl rfl)
  have gl_fraction_of : Gl X "fraction_of" := gl_of eS rfl
  have gl_TokenError : Gl X "TokenError" := gl_of eS rfl
  exact (so_cons (so_set hN v1 (eo_call G_fraction_of.up hr gl_fraction_of tk (ao_cons (eo_meth0 O_Reader_token hr tk (eo_of (fun os => by letI : Ghost := gho X.K os; exact (je_v v0)))) ao_nil)))
  (so_cons (so_if (to_of (fun os => by letI : Ghost := gho X.K os; exact (jt_isN (je_v v1))))
  (so_one (so_raise E_einB_TokenError hr hc tk gl_TokenError (eo_of (fun os => by letI : Ghost := gho X.K os; exact (je_fld CO_Reader NO_Reader_place (je_v v0))))))
  so_nil)
  (so_one (so_of (fun os => by letI : Ghost := gho X.K os; exact (js_ret (je_v v1)))))))
theorem o_Reader_number (KX : K.In base) (GX : base.Ns mainGlobals mg) (c : He.SaysD fa fn K) (hxb : xb K = true) (hns : BaseOk K mg base) (htr : P.given.tree = none) (hpr : PrgOk P file) (hml : el.map (fun d => mtW K d.x) = el.map ErD.val) : MthO P w K mg base "Reader" "number" 5 PG.sp_Reader_number := by
  obtain ⟨fd, F⟩ := c.def_ 14 (d := dd_Reader_number) rfl
  unfold PG.sp_Reader_number
  exact mthO_of (c.fact 55 (f := .glo "Reader") rfl) (c.fact 56 (f := .cls "Reader") rfl) (c.fact 62 (f := .meth "Reader" "number") rfl) (fnO_of (N := (["self", "found"] : List Str)) hns htr F sc_Reader_number rfl rfl (by decide) (fun X Wx cdv A outer s H E hX tk hcd am => by subst hX; exact d_Reader_number tk am sc_Reader_number.nd rfl (passes_of rfl) rfl rfl (fun _ => rfl) rfl rfl (g_fraction_of (P := P) (w := w) KX GX c hxb hns htr hpr hml) (o_Reader_token (P := P) (w := w) KX GX c hxb hns htr hpr hml) (clsO_of (c.fact 55 (f := .glo "Reader") rfl) (c.fact 56 (f := .cls "Reader") rfl)) (noaO_of (c.fact 55 (f := .glo "Reader") rfl) (c.fact 59 (f := .noat "Reader" "place") rfl)) (e_einB_TokenError (P := P) (w := w) KX GX c hxb hpr hml))) (F.bindsN (fun _ _ _ _ _ _ us hl => match us, hl with | [_], _ => rfl))

theorem sc_Reader_stop : FnScope (["self", "lower", "upper"] : List Str) (["self"] : List Str) (defScope s_Reader_stop) := ⟨rfl, rfl, rfl, by decide +kernel, rfl, by decide +kernel, by decide +kernel⟩
theorem d_Reader_stop {X : Cx} {Wx : WX} (tk : Takes X Wx) (am : Amb 5 X) (hN : X.N.Nodup) (hc : X.calm = true) (hxe : PassesOwn (model X.prog X.w) X.A X.env X.xe) (eN : X.N = (["self", "lower", "upper"] : List Str)) (eS : X.env.scope = defScope s_Reader_stop) (hfn : ∀ x, X.fn x = true) (hsk : X.stack = X.env :: X.outer) (hfl : X.env.frame = some X.env.locals) (O_Reader_is_next : MthO X.prog X.w X.K X.mg X.base "Reader" "is_next" 1 PG.sp_Reader_is_next) (O_Reader_number : MthO X.prog X.w X.K X.mg X.base "Reader" "number" 5 PG.sp_Reader_number) : JSOs X Wx (defBody s_Reader_stop) PG.w_Reader_stop := by
  have hr := am.rm
  have n0 : X.N[0]? = some ("self" : Str) := by rw [eN]; rfl
  have v0 : SlotOk X 0 "self" := slot_of eS eN hfn rfl (.inl rfl)
  have n1 : X.N[1]? = some ("lower" : Str) := by rw [eN]; rfl
  have v1 : SlotOk X 1 "lower" := slot_of eS eN hfn rfl (.inl rfl)
  have n2 : X.N[2]? = some ("upper" : Str) := by rw [eN]; rfl
  have v2 : SlotOk X 2 "upper" := slot_of eS eN hfn rfl (.inl rfl)
  exact (so_cons (so_of (fun os => by letI : Ghost := gho X.K os; exact (js_st hN v1 je_non)))
  (so_cons (so_of (fun os => by letI : Ghost := gho X.K os; exact (js_st hN v2 je_non)))
  (so_cons (so_if (to_tru (eo_meth O_Reader_is_next hr tk (eo_of (fun os => by letI : Ghost := gho X.K os; exact (je_v v0))) (ao_of (fun os => by letI : Ghost := gho X.K os; exact (ja_cons je_str ja_nil)))))
  (so_one (so_set hN v1 (eo_meth0 O_Reader_number hr tk (eo_of (fun os => by letI : Ghost := gho X.K os; exact (je_v v0))))))
  so_nil)
  (so_cons (so_if (to_tru (eo_meth O_Reader_is_next hr tk (eo_of (fun os => by letI : Ghost := gho X.K os; exact (je_v v0))) (ao_of (fun os => by letI : Ghost := gho X.K os; exact (ja_cons je_str ja_nil)))))
  (so_one (so_set hN v2 (eo_meth0 O_Reader_number hr tk (eo_of (fun os => by letI : Ghost := gho X.K os; exact (je_v v0))))))
  so_nil)
  (so_one (so_of (fun os => by letI : Ghost := gho X.K os; exact (js_ret (je_tup (ja_cons je_str (ja_cons (je_v v1) (ja_cons (je_v v2) ja_nil))))))))))))
theorem o_Reader_stop (KX : K.In base) (GX : base.Ns mainGlobals mg) (c : He.SaysD fa fn K) (hxb : xb K = true) (hns : BaseOk K mg base) (htr : P.given.tree = none) (hpr : PrgOk P file) (hml : el.map (fun d => mtW K d.x) = el.map ErD.val) : MthO P w K mg base "Reader" "stop" 6 PG.sp_Reader_stop := by
  obtain ⟨fd, F⟩ := c.def_ 15 (d := dd_Reader_stop) rfl
  unfold PG.sp_Reader_stop
  exact mthO_of (c.fact 55 (f := .glo "Reader") rfl) (c.fact 56 (f := .cls "Reader") rfl) (c.fact 63 (f := .meth "Reader" "stop") rfl) (fnO_of (N := (["self", "lower", "upper"] : List Str)) hns htr F sc_Reader_stop rfl rfl (by decide) (fun X Wx cdv A outer s H E hX tk hcd am => by subst hX; exact d_Reader_stop tk am sc_Reader_stop.nd rfl (passes_of rfl) rfl rfl (fun _ => rfl) rfl rfl (o_Reader_is_next (P := P) (w := w) KX GX c hxb hns htr hpr hml) (o_Reader_number (P := P) (w := w) KX GX c hxb hns htr hpr hml))) (F.bindsN (fun _ _ _ _ _ _ us hl => match us, hl with | [_], _ => rfl))

theorem sc_Reader_element : FnScope (["self", "word", "number", "center"] : List Str) (["self"] : List Str) (defScope s_Reader_element) := ⟨rfl, rfl, rfl, by decide +kernel, rfl, by decide +kernel, by decide +kernel⟩
theorem d_Reader_element {X : Cx} {Wx : WX} (tk : Takes X Wx) (am : Amb 6 X) (hN : X.N.Nodup) (hc : X.calm = true) (hxe : PassesOwn (model X.prog X.w) X.A X.env X.xe) (eN : X.N = (["self", "word", "number", "center"] : List Str)) (eS : X.env.scope = defScope s_Reader_element) (hfn : ∀ x, X.fn x = true) (hsk : X.stack = X.env :: X.outer) (hfl : X.env.frame = some X.env.locals) (C_WORDS : CstG X.K X.mg "WORDS" PG.v_WORDS) (C_ZERO : CstG X.K X.mg "ZERO" PG.v_ZERO) (O_Reader_token : MthO X.prog X.w X.K X.mg X.base "Reader" "token" 3 PG.sp_Reader_token) (O_Reader_stop : MthO X.prog X.w X.K X.mg X.base "Reader" "stop" 6 PG.sp_Reader_stop) (O_Reader_number : MthO X.prog X.w X.K X.mg X.base "Reader" "number" 5 PG.sp_Reader_number) (O_Reader_is_next : MthO X.prog X.w X.K X.mg X.base "Reader" "is_next" 1 PG.sp_Reader_is_next) (CO_Reader : ClsO X.K "Reader") (NO_Reader_place : NoaO X.K "Reader" "place") (E_einB_TokenError : ErrI X.prog X.w X.K X.mg X.base "TokenError" 1) : JSOs X Wx (defBody s_Reader_element) PG.w_Reader_element := by
  have hr := am.rm
  have n0 : X.N[0]? = some ("self" : Str) := by rw [eN]; rfl
  have v0 : SlotOk X 0 "self" := slot_of eS eN hfn rfl (.inl rfl)
  have n1 : X.N[1]? = some ("word" : Str) := by rw [eN]; rfl
  have v1 : SlotOk X 1 "word" := slot_of eS eN hfn rfl (.inl rfl)
  have n2 : X.N[2]? = some ("number" : Str) := by rw [eN]; rfl
  have v2 : SlotOk X 2 "number" := slot_of eS eN hfn rfl (.inl rfl)
  have n3 : X.N[3]? = some ("center" : Str) := by rw [eN]; rfl
  have v3 : SlotOk X 3 "center" := slot_of eS eN hfn rfl (.inl rfl)
  have gl_WORDS : Gl X "WORDS" := gl_of eS rfl
  have gl_TokenError : Gl X "TokenError" := gl_of eS rfl
  have gl_ZERO : Gl X "ZERO" := gl_of eS rfl
  exact (so_cons (so_set hN v1 (eo_meth0 O_Reader_token hr tk (eo_of (fun os => by letI : Ghost := gho X.K os; exact (je_v v0)))))
  (so_cons (so_if (to_of (fun os => by letI : Ghost := gho X.K os; exact (jt_cmp (o_notInT hr) (je_v v1) (je_glob ⟨gl_WORDS, C_WORDS, by decide⟩) rfl)))
  (so_one (so_raise E_einB_TokenError hr hc tk gl_TokenError (eo_of (fun os => by letI : Ghost := gho X.K os; exact (je_fld CO_Reader NO_Reader_place (je_v v0))))))
  so_nil)
  (so_cons (so_if (to_of (fun os => by letI : Ghost := gho X.K os; exact (jt_cmp (o_eq hr) (je_v v1) je_str (nomark _))))
  (so_one (so_ret (eo_meth0 O_Reader_stop hr tk (eo_of (fun os => by letI : Ghost := gho X.K os; exact (je_v v0))))))
  so_nil)
  (so_cons (so_set hN v2 (eo_meth0 O_Reader_number hr tk (eo_of (fun os => by letI : Ghost := gho X.K os; exact (je_v v0)))))
  (so_cons (so_of (fun os => by letI : Ghost := gho X.K os; exact (js_if (jt_cmp (o_ne hr) (je_v v1) je_str (nomark _))
  (js_one (js_ret (je_tup (ja_cons (je_v v1) (ja_cons (je_v v2) ja_nil)))))
  js_nil)))
  (so_cons (so_of (fun os => by letI : Ghost := gho X.K os; exact (js_st hN v3 (je_glob ⟨gl_ZERO, C_ZERO, by decide⟩))))
  (so_cons (so_if (to_tru (eo_meth O_Reader_is_next hr tk (eo_of (fun os => by letI : Ghost := gho X.K os; exact (je_v v0))) (ao_of (fun os => by letI : Ghost := gho X.K os; exact (ja_cons je_str ja_nil)))))
  (so_one (so_set hN v3 (eo_meth0 O_Reader_number hr tk (eo_of (fun os => by letI : Ghost := gho X.K os; exact (je_v v0))))))
  so_nil)
  (so_one (so_of (fun os => by letI : Ghost := gho X.K os; exact (js_ret (je_tup (ja_cons (je_v v1) (ja_cons (je_v v2) (ja_cons (je_v v3) ja_nil)))))))))))))))
theorem o_Reader_element (KX : K.In base) (GX : base.Ns mainGlobals mg) (c : He.SaysD fa fn K) (hxb : xb K = true) (hns : BaseOk K mg base) (htr : P.given.tree = none) (hpr : PrgOk P file) (hml : el.map (fun d => mtW K d.x) = el.map ErD.val) : MthO P w K mg base "Reader" "element" 7 PG.sp_Reader_element := by
  obtain ⟨fd, F⟩ := c.def_ 16 (d := dd_Reader_element) rfl
  unfold PG.sp_Reader_element
  exact mthO_of (c.fact 55 (f := .glo "Reader") rfl) (c.fact 56 (f := .cls "Reader") rfl) (c.fact 64 (f := .meth "Reader" "element") rfl) (fnO_of (N := (["self", "word", "number", "center"] : List Str)) hns htr F sc_Reader_element rfl rfl (by decide) (fun X Wx cdv A outer s H E hX tk hcd am => by subst hX; exact d_Reader_element tk am sc_Reader_element.nd rfl (passes_of rfl) rfl rfl (fun _ => rfl) rfl rfl (cst_WORDS KX GX c hxb) (cst_ZERO KX GX c hxb) (o_Reader_token (P := P) (w := w) KX GX c hxb hns htr hpr hml) (o_Reader_stop (P := P) (w := w) KX GX c hxb hns htr hpr hml) (o_Reader_number (P := P) (w := w) KX GX c hxb hns htr hpr hml) (o_Reader_is_next (P := P) (w := w) KX GX c hxb hns htr hpr hml) (clsO_of (c.fact 55 (f := .glo "Reader") rfl) (c.fact 56 (f := .cls "Reader") rfl)) (noaO_of (c.fact 55 (f := .glo "Reader") rfl) (c.fact 59 (f := .noat "Reader" "place") rfl)) (e_einB_TokenError (P := P) (w := w) KX GX c hxb hpr hml))) (F.bindsN (fun _ _ _ _ _ _ us hl => match us, hl with | [_], _ => rfl))

theorem sc_Reader_train : FnScope (["self", "found"] : List Str) (["self"] : List Str) (defScope s_Reader_train) := ⟨rfl, rfl, rfl, by decide +kernel, rfl, by decide +kernel, by decide +kernel⟩
theorem d_Reader_train {X : Cx} {Wx : WX} (tk : Takes X Wx) (am : Amb 7 X) (hN : X.N.Nodup) (hc : X.calm = true) (hxe : PassesOwn (model X.prog X.w) X.A X.env X.xe) (eN : X.N = (["self", "found"] : List Str)) (eS : X.env.scope = defScope s_Reader_train) (hfn : ∀ x, X.fn x = true) (hsk : X.stack = X.env :: X.outer) (hfl : X.env.frame = some X.env.locals) (fr_len : X.mg "len" = none) (O_Reader_element : MthO X.prog X.w X.K X.mg X.base "Reader" "element" 7 PG.sp_Reader_element) (O_Reader_is_next : MthO X.prog X.w X.K X.mg X.base "Reader" "is_next" 1 PG.sp_Reader_is_next) (CO_Reader : ClsO X.K "Reader") (NO_Reader_tokens : NoaO X.K "Reader" "tokens") (NO_Reader_place : NoaO X.K "Reader" "place") (E_einB_TokenError : ErrI X.prog X.w X.K X.mg X.base "TokenError" 1) : JSOs X Wx (defBody s_Reader_train) PG.w_Reader_train := by
  have hr := am.rm
  have n0 : X.N[0]? = some ("self" : Str) := by rw [eN]; rfl
  have v0 : SlotOk X 0 "self" := slot_of eS eN hfn rfl (.inl rfl)
  have n1 : X.N[1]? = some ("found" : Str) := by rw [eN]; rfl
  have v1 : SlotOk X 1 "found" := slot_of eS eN hfn rfl (.inl rfl)
  have gl_len : Gl X "len" := gl_of eS rfl
  have gl_TokenError : Gl X "TokenError" := gl_of eS rfl
  exact (so_cons (so_of (fun os => by letI : Ghost := gho X.K os; exact (js_if (jt_not (jt_tru (je_fld CO_Reader NO_Reader_tokens (je_v v0))))
  (js_one (js_ret (je_lst ja_nil)))
  js_nil)))
  (so_cons (so_set hN v1 (eo_lstO (ao_cons (eo_meth0 O_Reader_element hr tk (eo_of (fun os => by letI : Ghost := gho X.K os; exact (je_v v0)))) ao_nil)))
  (so_cons (so_while hxe (to_of (fun os => by letI : Ghost := gho X.K os; exact (jt_cmp o_lt (je_fld CO_Reader NO_Reader_place (je_v v0)) (je_bi b_len gl_len fr_len RT.boot_len (ja_cons (je_fld CO_Reader NO_Reader_tokens (je_v v0)) ja_nil)) (nomark _))))
  (so_cons (so_if (to_not (to_tru (eo_meth O_Reader_is_next hr tk (eo_of (fun os => by letI : Ghost := gho X.K os; exact (je_v v0))) (ao_of (fun os => by letI : Ghost := gho X.K os; exact (ja_cons je_str ja_nil))))))
  (so_one (so_raise E_einB_TokenError hr hc tk gl_TokenError (eo_of (fun os => by letI : Ghost := gho X.K os; exact (je_op o_addA (je_fld CO_Reader NO_Reader_place (je_v v0)) je_int)))))
  so_nil)
  (so_one (so_do (eo_app v1.hN v1.vis (ao_cons (eo_meth0 O_Reader_element hr tk (eo_of (fun os => by letI : Ghost := gho X.K os; exact (je_v v0)))) ao_nil))))))
  (so_one (so_of (fun os => by letI : Ghost := gho X.K os; exact (js_ret (je_v v1))))))))
theorem o_Reader_train (KX : K.In base) (GX : base.Ns mainGlobals mg) (c : He.SaysD fa fn K) (hxb : xb K = true) (hns : BaseOk K mg base) (htr : P.given.tree = none) (hpr : PrgOk P file) (hml : el.map (fun d => mtW K d.x) = el.map ErD.val) : MthO P w K mg base "Reader" "train" 8 PG.sp_Reader_train := by
  obtain ⟨fd, F⟩ := c.def_ 17 (d := dd_Reader_train) rfl
  unfold PG.sp_Reader_train
  exact mthO_of (c.fact 55 (f := .glo "Reader") rfl) (c.fact 56 (f := .cls "Reader") rfl) (c.fact 65 (f := .meth "Reader" "train") rfl) (fnO_of (N := (["self", "found"] : List Str)) hns htr F sc_Reader_train rfl rfl (by decide) (fun X Wx cdv A outer s H E hX tk hcd am => by subst hX; exact d_Reader_train tk am sc_Reader_train.nd rfl (passes_of rfl) rfl rfl (fun _ => rfl) rfl rfl (He.free_ok KX GX (c.fact 46 (f := .free "len") rfl)) (o_Reader_element (P := P) (w := w) KX GX c hxb hns htr hpr hml) (o_Reader_is_next (P := P) (w := w) KX GX c hxb hns htr hpr hml) (clsO_of (c.fact 55 (f := .glo "Reader") rfl) (c.fact 56 (f := .cls "Reader") rfl)) (noaO_of (c.fact 55 (f := .glo "Reader") rfl) (c.fact 58 (f := .noat "Reader" "tokens") rfl)) (noaO_of (c.fact 55 (f := .glo "Reader") rfl) (c.fact 59 (f := .noat "Reader" "place") rfl)) (e_einB_TokenError (P := P) (w := w) KX GX c hxb hpr hml))) (F.bindsN (fun _ _ _ _ _ _ us hl => match us, hl with | [_], _ => rfl))

theorem sc_is_good : FnScope (["element"] : List Str) (["element"] : List Str) (defScope s_is_good) := ⟨rfl, rfl, rfl, by decide +kernel, rfl, by decide +kernel, by decide +kernel⟩
theorem d_is_good {X : Cx} (am : Amb 6 X) (hN : X.N.Nodup) (hc : X.calm = true) (hxe : PassesOwn (model X.prog X.w) X.A X.env X.xe) (eN : X.N = (["element"] : List Str)) (eS : X.env.scope = defScope s_is_good) (hfn : ∀ x, X.fn x = true) (G_is_less : FnG X.prog X.w X.K X.mg X.base "is_less" 6 PG.sp_is_less []) (C_ZERO : CstG X.K X.mg "ZERO" PG.v_ZERO) : JSs X (defBody s_is_good) PG.w_is_good := by
  have hr := am.rm
  have n0 : X.N[0]? = some ("element" : Str) := by rw [eN]; rfl
  have v0 : SlotOk X 0 "element" := slot_of eS eN hfn rfl (.inl rfl)
  have gl_ZERO : Gl X "ZERO" := gl_of eS rfl
  have gl_is_less : Gl X "is_less" := gl_of eS rfl
  exact (js_cons (js_if (jt_cmp (o_eq hr) (je_ix (je_v v0) je_int) je_str (nomark _))
  (js_one (js_ret (je_cmp (o_ne hr) (je_ix (je_v v0) je_int) (je_glob ⟨gl_ZERO, C_ZERO, by decide⟩) (nomark _))))
  js_nil)
  (js_cons (js_if (jw_pt (jw_and (jt_cmp (o_eq hr) (je_ix (je_v v0) je_int) je_str (nomark _)) (jw_and (jt_notN (je_ix (je_v v0) je_int)) (jw_and1 (jt_notN (je_ix (je_v v0) je_int))))))
  (js_one (js_ret (je_notV (je_cg G_is_less hr gl_is_less (ja_cons (je_ix (je_v v0) je_int) (ja_cons (je_ix (je_v v0) je_int) ja_nil))))))
  js_nil)
  (js_one (js_ret je_bl))))
theorem g_is_good (KX : K.In base) (GX : base.Ns mainGlobals mg) (c : He.SaysD fa fn K) (hxb : xb K = true) (hns : BaseOk K mg base) (htr : P.given.tree = none) (hpr : PrgOk P file) (hml : el.map (fun d => mtW K d.x) = el.map ErD.val) : FnG P w K mg base "is_good" 7 PG.sp_is_good [] := by
  obtain ⟨fd, F⟩ := c.def_ 18 (d := dd_is_good) rfl
  unfold PG.sp_is_good
  exact mkG (N := (["element"] : List Str)) false hns htr F (He.glo_ok KX GX (c.fact 18 (f := .glo "is_good") rfl)) sc_is_good rfl rfl (fun _ _ _ _ _ _ us hl => match us, hl with | [_], _ => rfl) (fun X cdv A outer s H E hX hcd am => by subst hX; exact d_is_good am sc_is_good.nd rfl PassesOwn.never rfl rfl (fun _ => rfl) (g_is_less (P := P) (w := w) KX GX c hxb hns htr hpr hml) (cst_ZERO KX GX c hxb))

theorem sc_parse_train : FnScope (["text", "train", "stops", "element"] : List Str) (["text"] : List Str) (defScope s_parse_train) := ⟨rfl, rfl, rfl, by decide +kernel, rfl, by decide +kernel, by decide +kernel⟩
theorem d_parse_train {X : Cx} {Wx : WX} (tk : Takes X Wx) (am : Amb 9 X) (hN : X.N.Nodup) (hc : X.calm = true) (hxe : PassesOwn (model X.prog X.w) X.A X.env X.xe) (eN : X.N = (["text", "train", "stops", "element"] : List Str)) (eS : X.env.scope = defScope s_parse_train) (hfn : ∀ x, X.fn x = true) (hsk : X.stack = X.env :: X.outer) (hfl : X.env.frame = some X.env.locals) (ig : InGen X) (fr_len : X.mg "len" = none) (fr_all : X.mg "all" = none) (G_is_good : FnG X.prog X.w X.K X.mg X.base "is_good" 7 PG.sp_is_good []) (C_ELEMENTS_MOST : CstG X.K X.mg "ELEMENTS_MOST" PG.v_ELEMENTS_MOST) (C_STOPS_MOST : CstG X.K X.mg "STOPS_MOST" PG.v_STOPS_MOST) (O_Reader_train : MthO X.prog X.w X.K X.mg X.base "Reader" "train" 8 PG.sp_Reader_train) (O_Reader___init__ : MkO X.prog X.w X.K X.mg X.base "Reader" 2 PG.sp_Reader___init__) (E_excB_BadTrain : ExcG X.K X.mg "BadTrain") : JSOs X Wx (defBody s_parse_train) PG.w_parse_train := by
  have hr := am.rm
  have n0 : X.N[0]? = some ("text" : Str) := by rw [eN]; rfl
  have v0 : SlotOk X 0 "text" := slot_of eS eN hfn rfl (.inl rfl)
  have n1 : X.N[1]? = some ("train" : Str) := by rw [eN]; rfl
  have v1 : SlotOk X 1 "train" := slot_of eS eN hfn rfl (.inl rfl)
  have n2 : X.N[2]? = some ("stops" : Str) := by rw [eN]; rfl
  have v2 : SlotOk X 2 "stops" := slot_of eS eN hfn rfl (.inl rfl)
  have n3 : X.N[3]? = some ("element" : Str) := by rw [eN]; rfl
  have gl_Reader : Gl X "Reader" := gl_of eS rfl
  have gl_len : Gl X "len" := gl_of eS rfl
  have gl_ELEMENTS_MOST : Gl X "ELEMENTS_MOST" := gl_of eS rfl
  have gl_STOPS_MOST : Gl X "STOPS_MOST" := gl_of eS rfl
  have gl_all : Gl X "all" := gl_of eS rfl
  have gl_BadTrain : Gl X "BadTrain" := gl_of eS rfl
  exact (so_cons (so_set hN v1 (eo_meth0 O_Reader_train hr tk (eo_make O_Reader___init__ hr gl_Reader tk (ao_of (fun os => by letI : Ghost := gho X.K os; exact (ja_cons (je_v v0) ja_nil))))))
  (so_cons (so_of (fun os => by letI : Ghost := gho X.K os; exact (js_setLc false (i := 2) (own' := [("element", 3)]) (by decide) hc hN n2 (by rw [eS]; rfl) (sw_true (by rw [eS]; rfl) (by rw [eS]; rfl) rfl (by decide +kernel)) (ji_any (je_v v1)) (blk_of eN eS (own := [("element", 3)]) (by decide +kernel)) (fun s H C cl fp => (jg_of (pg_name (i := 3) hN n3 (by first | exact .inl rfl | exact .inr rfl)))) (fun s H C cl fp => (jts_one (jt_cmp (o_eq hr) (je_ix (je_var 3 n3 (hv := (by first | exact Or.inl rfl | exact Or.inr (Or.inl rfl) | exact vis_free (by decide +kernel)))) je_int) je_str (nomark _)))) (fun s H C cl fp => (je_var 3 n3 (hv := (by first | exact Or.inl rfl | exact Or.inr (Or.inl rfl) | exact vis_free (by decide +kernel))))))))
  (so_cons (so_if (to_of (fun os => by letI : Ghost := gho X.K os; exact (jw_pt (jw_or (jt_cmp o_gt (je_bi b_len gl_len fr_len RT.boot_len (ja_cons (je_v v1) ja_nil)) (je_glob ⟨gl_ELEMENTS_MOST, C_ELEMENTS_MOST, by decide⟩) (nomark _)) (jw_or (jt_cmp o_gt (je_bi b_len gl_len fr_len RT.boot_len (ja_cons (je_v v2) ja_nil)) (je_glob ⟨gl_STOPS_MOST, C_STOPS_MOST, by decide⟩) (nomark _)) (jw_or1 (jt_not (jt_tru (je_all am ig (gsc_of (by decide +kernel)) gl_all fr_all (own' := [("element", 3)]) (by decide) hc hN (ji_any (je_v v1)) (blk_of eN eS (own := [("element", 3)]) (by decide +kernel)) (fun s H C code cl fp A' hA => (jg_of (pg_name (i := 3) hN n3 (by first | exact .inl rfl | exact .inr rfl)))) (fun s H C code cl fp A' hA => (je_cg G_is_good (gr_gx hr hA) (by rfl) (ja_cons (je_var 3 n3 (hv := .inl rfl)) ja_nil))))))))))))
  (so_one (so_raise0 E_excB_BadTrain rfl hc tk gl_BadTrain))
  so_nil)
  (so_one (so_of (fun os => by letI : Ghost := gho X.K os; exact (js_ret (je_v v1))))))))
theorem o_parse_train (KX : K.In base) (GX : base.Ns mainGlobals mg) (c : He.SaysD fa fn K) (hxb : xb K = true) (hns : BaseOk K mg base) (htr : P.given.tree = none) (hpr : PrgOk P file) (hml : el.map (fun d => mtW K d.x) = el.map ErD.val) : FnO P w K mg base "parse_train" 10 PG.sp_parse_train := by
  obtain ⟨fd, F⟩ := c.def_ 19 (d := dd_parse_train) rfl
  unfold PG.sp_parse_train
  exact mkO (N := (["text", "train", "stops", "element"] : List Str)) hns htr F (He.glo_ok KX GX (c.fact 19 (f := .glo "parse_train") rfl)) sc_parse_train rfl rfl (by decide) (fun _ _ _ _ _ _ us hl => match us, hl with | [_], _ => rfl) (fun X Wx cdv A outer s H E hX tk hcd am => by subst hX; exact d_parse_train tk am sc_parse_train.nd rfl (passes_of rfl) rfl rfl (fun _ => rfl) rfl rfl (ingen_of (p := ("parse_train", none)) hcd (by decide) (tb_parse_train (K := K) hxb)) (He.free_ok KX GX (c.fact 46 (f := .free "len") rfl)) (He.free_ok KX GX (c.fact 47 (f := .free "all") rfl)) (g_is_good (P := P) (w := w) KX GX c hxb hns htr hpr hml) (cst_ELEMENTS_MOST KX GX c hxb) (cst_STOPS_MOST KX GX c hxb) (o_Reader_train (P := P) (w := w) KX GX c hxb hns htr hpr hml) (o_Reader___init__ (P := P) (w := w) KX GX c hxb hns htr hpr hml) (e_excB_BadTrain KX GX hxb))
theorem sc__law_cell : FnScope (["_law_script", "_law_k"] : List Str) (["_law_script", "_law_k"] : List Str) (defScope s__law_cell) := ⟨rfl, rfl, rfl, by decide +kernel, rfl, by decide +kernel, by decide +kernel⟩
theorem d__law_cell {X : Cx} (am : Amb 0 X) (hN : X.N.Nodup) (hc : X.calm = true) (hxe : PassesOwn (model X.prog X.w) X.A X.env X.xe) (eN : X.N = (["_law_script", "_law_k"] : List Str)) (eS : X.env.scope = defScope s__law_cell) (hfn : ∀ x, X.fn x = true) (fr_len : X.mg "len" = none) : JSs X (defBody s__law_cell) PG.w__law_cell := by
  have hr := am.rm
  have n0 : X.N[0]? = some ("_law_script" : Str) := by rw [eN]; rfl
  have v0 : SlotOk X 0 "_law_script" := slot_of eS eN hfn rfl (.inl rfl)
  have n1 : X.N[1]? = some ("_law_k" : Str) := by rw [eN]; rfl
  have v1 : SlotOk X 1 "_law_k" := slot_of eS eN hfn rfl (.inl rfl)
  have gl_len : Gl X "len" := gl_of eS rfl
  exact (js_cons (js_if (jt_cmp o_lt (je_v v1) (je_bi b_len gl_len fr_len RT.boot_len (ja_cons (je_v v0) ja_nil)) (nomark _))
  (js_one (js_ret (je_ix (je_v v0) (je_v v1))))
  js_nil)
  (js_one (js_ret je_int)))
theorem g__law_cell (KX : K.In base) (GX : base.Ns mainGlobals mg) (c : He.SaysD fa fn K) (hxb : xb K = true) (hns : BaseOk K mg base) (htr : P.given.tree = none) (hpr : PrgOk P file) (hml : el.map (fun d => mtW K d.x) = el.map ErD.val) : FnG P w K mg base "_law_cell" 1 PG.sp__law_cell [] := by
  obtain ⟨fd, F⟩ := c.def_ 20 (d := dd__law_cell) rfl
  unfold PG.sp__law_cell
  exact mkG (N := (["_law_script", "_law_k"] : List Str)) false hns htr F (He.glo_ok KX GX (c.fact 20 (f := .glo "_law_cell") rfl)) sc__law_cell rfl rfl (fun _ _ _ _ _ _ us hl => match us, hl with | [_, _], _ => rfl) (fun X cdv A outer s H E hX hcd am => by subst hX; exact d__law_cell am sc__law_cell.nd rfl PassesOwn.never rfl rfl (fun _ => rfl) (He.free_ok KX GX (c.fact 46 (f := .free "len") rfl)))

theorem sc__law_digits : FnScope (["_law_script", "_law_first", "_law_last", "_law_digits_here", "_law_k", "_law_cell_here", "_law_turn", "_law_seed"] : List Str) (["_law_script", "_law_first", "_law_last"] : List Str) (defScope s__law_digits) := ⟨rfl, rfl, rfl, by decide +kernel, rfl, by decide +kernel, by decide +kernel⟩
theorem d__law_digits {X : Cx} (am : Amb 1 X) (hN : X.N.Nodup) (hc : X.calm = true) (hxe : PassesOwn (model X.prog X.w) X.A X.env X.xe) (eN : X.N = (["_law_script", "_law_first", "_law_last", "_law_digits_here", "_law_k", "_law_cell_here", "_law_turn", "_law_seed"] : List Str)) (eS : X.env.scope = defScope s__law_digits) (hfn : ∀ x, X.fn x = true) (fr_range : X.mg "range" = none) (fr_int : X.mg "int" = none) (G__law_cell : FnG X.prog X.w X.K X.mg X.base "_law_cell" 1 PG.sp__law_cell []) : JSs X (defBody s__law_digits) PG.w__law_digits := by
  have hr := am.rm
  have n0 : X.N[0]? = some ("_law_script" : Str) := by rw [eN]; rfl
  have v0 : SlotOk X 0 "_law_script" := slot_of eS eN hfn rfl (.inl rfl)
  have n1 : X.N[1]? = some ("_law_first" : Str) := by rw [eN]; rfl
  have v1 : SlotOk X 1 "_law_first" := slot_of eS eN hfn rfl (.inl rfl)
  have n2 : X.N[2]? = some ("_law_last" : Str) := by rw [eN]; rfl
  have v2 : SlotOk X 2 "_law_last" := slot_of eS eN hfn rfl (.inl rfl)
  have n3 : X.N[3]? = some ("_law_digits_here" : Str) := by rw [eN]; rfl
  have v3 : SlotOk X 3 "_law_digits_here" := slot_of eS eN hfn rfl (.inl rfl)
  have n4 : X.N[4]? = some ("_law_k" : Str) := by rw [eN]; rfl
  have v4 : SlotOk X 4 "_law_k" := slot_of eS eN hfn rfl (.inl rfl)
  have n5 : X.N[5]? = some ("_law_cell_here" : Str) := by rw [eN]; rfl
  have v5 : SlotOk X 5 "_law_cell_here" := slot_of eS eN hfn rfl (.inl rfl)
  have n6 : X.N[6]? = some ("_law_turn" : Str) := by rw [eN]; rfl
  have v6 : SlotOk X 6 "_law_turn" := slot_of eS eN hfn rfl (.inl rfl)
  have n7 : X.N[7]? = some ("_law_seed" : Str) := by rw [eN]; rfl
  have v7 : SlotOk X 7 "_law_seed" := slot_of eS eN hfn rfl (.inl rfl)
  have gl_range : Gl X "range" := gl_of eS rfl
  have gl__law_cell : Gl X "_law_cell" := gl_of eS rfl
  have gl_int : Gl X "int" := gl_of eS rfl
  exact (js_cons (js_st hN v3 (je_lstO ja_nil))
  (js_cons (js_for hxe hc (ji_range2 gl_range fr_range (ja_cons (je_v v1) (ja_cons (je_v v2) ja_nil))) (jg_of (pg_v hN v4))
  (js_cons (js_st hN v5 (je_cg G__law_cell hr gl__law_cell (ja_cons (je_v v0) (ja_cons (je_v v4) ja_nil))))
  (js_cons (js_if (jt_cmp o_lt (je_v v5) je_int (nomark _))
  (js_one (js_st hN v5 (je_op o_sub je_int (je_op o_mul je_int (je_v v5)))))
  js_nil)
  (js_one (js_if (jt_cmp o_ge (je_v v5) (je_op o_pow je_int je_int) (nomark _))
  (js_one (js_for hxe hc (ji_range1 gl_range fr_range (ja_cons je_int ja_nil)) (jg_of (pg_v hN v6))
  (js_one (js_if (jt_cmp o_gt (je_v v5) je_int (nomark _))
  (js_cons (js_do (je_meth PySem.F.slot_list_append PySem.F.type_list_append m_append (je_v v3) (ja_cons (je_op o_mod (je_bty b_int gl_int fr_int RT.boot_int (ja_cons (je_v v5) ja_nil)) je_int) ja_nil)))
  (js_one (js_st hN v5 (je_op (o_fdiv am.py) (je_v v5) je_int))))
  js_nil))))
  (js_cons (js_st hN v7 (je_op o_mod (je_bty b_int gl_int fr_int RT.boot_int (ja_cons (je_op o_addA (je_op o_addA (je_op o_mul (je_v v5) je_int) (je_op o_mul (je_v v4) je_int)) je_int) ja_nil)) je_int))
  (js_one (js_for hxe hc (ji_range1 gl_range fr_range (ja_cons je_int ja_nil)) (jg_of (pg_v hN v6))
  (js_cons (js_st hN v7 (je_op o_mod (je_bty b_int gl_int fr_int RT.boot_int (ja_cons (je_op o_addA (je_op o_addA (je_op o_mul (je_v v7) je_int) (je_op o_mul je_int (je_v v6))) je_int) ja_nil)) je_int))
  (js_one (js_do (je_meth PySem.F.slot_list_append PySem.F.type_list_append m_append (je_v v3) (ja_cons (je_op o_mod (je_bty b_int gl_int fr_int RT.boot_int (ja_cons (je_op (o_fdiv am.py) (je_v v7) je_int) ja_nil)) je_int) ja_nil)))))))))))))
  (js_one (js_ret (je_v v3)))))
theorem g__law_digits (KX : K.In base) (GX : base.Ns mainGlobals mg) (c : He.SaysD fa fn K) (hxb : xb K = true) (hns : BaseOk K mg base) (htr : P.given.tree = none) (hpr : PrgOk P file) (hml : el.map (fun d => mtW K d.x) = el.map ErD.val) : FnG P w K mg base "_law_digits" 2 PG.sp__law_digits [] := by
  obtain ⟨fd, F⟩ := c.def_ 21 (d := dd__law_digits) rfl
  unfold PG.sp__law_digits
  exact mkG (N := (["_law_script", "_law_first", "_law_last", "_law_digits_here", "_law_k", "_law_cell_here", "_law_turn", "_law_seed"] : List Str)) false hns htr F (He.glo_ok KX GX (c.fact 21 (f := .glo "_law_digits") rfl)) sc__law_digits rfl rfl (fun _ _ _ _ _ _ us hl => match us, hl with | [_, _, _], _ => rfl) (fun X cdv A outer s H E hX hcd am => by subst hX; exact d__law_digits am sc__law_digits.nd rfl PassesOwn.never rfl rfl (fun _ => rfl) (He.free_ok KX GX (c.fact 50 (f := .free "range") rfl)) (He.free_ok KX GX (c.fact 48 (f := .free "int") rfl)) (g__law_cell (P := P) (w := w) KX GX c hxb hns htr hpr hml))

theorem sc__law_draw : FnScope (["_law_box", "_law_many", "_law_at"] : List Str) (["_law_box", "_law_many"] : List Str) (defScope s__law_draw) := ⟨rfl, rfl, rfl, by decide +kernel, rfl, by decide +kernel, by decide +kernel⟩
theorem d__law_draw {X : Cx} (am : Amb 0 X) (hN : X.N.Nodup) (hc : X.calm = true) (hxe : PassesOwn (model X.prog X.w) X.A X.env X.xe) (eN : X.N = (["_law_box", "_law_many", "_law_at"] : List Str)) (eS : X.env.scope = defScope s__law_draw) (hfn : ∀ x, X.fn x = true) (fr_len : X.mg "len" = none) (fr_int : X.mg "int" = none) : JSs X (defBody s__law_draw) PG.w__law_draw := by
  have hr := am.rm
  have n0 : X.N[0]? = some ("_law_box" : Str) := by rw [eN]; rfl
  have v0 : SlotOk X 0 "_law_box" := slot_of eS eN hfn rfl (.inl rfl)
  have n1 : X.N[1]? = some ("_law_many" : Str) := by rw [eN]; rfl
  have v1 : SlotOk X 1 "_law_many" := slot_of eS eN hfn rfl (.inl rfl)
  have n2 : X.N[2]? = some ("_law_at" : Str) := by rw [eN]; rfl
  have v2 : SlotOk X 2 "_law_at" := slot_of eS eN hfn rfl (.inl rfl)
  have gl_len : Gl X "len" := gl_of eS rfl
  have gl_int : Gl X "int" := gl_of eS rfl
  exact (js_cons (js_st hN v2 (je_ix (je_v v0) je_int))
  (js_cons (js_setIx (je_op o_addA (je_v v2) je_int) (pg_sub (je_v v0) je_int set_list))
  (js_cons (js_if (jt_cmp o_lt (je_v v2) (je_bi b_len gl_len fr_len RT.boot_len (ja_cons (je_ix (je_v v0) je_int) ja_nil)) (nomark _))
  (js_one (js_ret (je_op o_mod (je_bty b_int gl_int fr_int RT.boot_int (ja_cons (je_ix (je_ix (je_v v0) je_int) (je_v v2)) ja_nil)) (je_v v1))))
  js_nil)
  (js_one (js_ret je_int)))))
theorem g__law_draw (KX : K.In base) (GX : base.Ns mainGlobals mg) (c : He.SaysD fa fn K) (hxb : xb K = true) (hns : BaseOk K mg base) (htr : P.given.tree = none) (hpr : PrgOk P file) (hml : el.map (fun d => mtW K d.x) = el.map ErD.val) : FnG P w K mg base "_law_draw" 1 PG.sp__law_draw [] := by
  obtain ⟨fd, F⟩ := c.def_ 22 (d := dd__law_draw) rfl
  unfold PG.sp__law_draw
  exact mkG (N := (["_law_box", "_law_many", "_law_at"] : List Str)) false hns htr F (He.glo_ok KX GX (c.fact 22 (f := .glo "_law_draw") rfl)) sc__law_draw rfl rfl (fun _ _ _ _ _ _ us hl => match us, hl with | [_, _], _ => rfl) (fun X cdv A outer s H E hX hcd am => by subst hX; exact d__law_draw am sc__law_draw.nd rfl PassesOwn.never rfl rfl (fun _ => rfl) (He.free_ok KX GX (c.fact 46 (f := .free "len") rfl)) (He.free_ok KX GX (c.fact 48 (f := .free "int") rfl)))

theorem sc__law_figures : FnScope (["_law_word", "_law_sign"] : List Str) (["_law_word"] : List Str) (defScope s__law_figures) := ⟨rfl, rfl, rfl, by decide +kernel, rfl, by decide +kernel, by decide +kernel⟩
theorem d__law_figures {X : Cx} (am : Amb 0 X) (hN : X.N.Nodup) (hc : X.calm = true) (hxe : PassesOwn (model X.prog X.w) X.A X.env X.xe) (eN : X.N = (["_law_word", "_law_sign"] : List Str)) (eS : X.env.scope = defScope s__law_figures) (hfn : ∀ x, X.fn x = true) (fr_len : X.mg "len" = none) : JSs X (defBody s__law_figures) PG.w__law_figures := by
  have hr := am.rm
  have n0 : X.N[0]? = some ("_law_word" : Str) := by rw [eN]; rfl
  have v0 : SlotOk X 0 "_law_word" := slot_of eS eN hfn rfl (.inl rfl)
  have n1 : X.N[1]? = some ("_law_sign" : Str) := by rw [eN]; rfl
  have v1 : SlotOk X 1 "_law_sign" := slot_of eS eN hfn rfl (.inl rfl)
  have gl_len : Gl X "len" := gl_of eS rfl
  exact (js_cons (js_if (jw_pt (jw_or (jt_cmp (o_eq hr) (je_bi b_len gl_len fr_len RT.boot_len (ja_cons (je_v v0) ja_nil)) je_int (nomark _)) (jw_or1 (jt_cmp (o_eq hr) (je_ix (je_v v0) je_int) je_str (nomark _)))))
  (js_one (js_ret je_bl))
  js_nil)
  (js_cons (js_for hxe hc (ji_sgn (je_v v0)) (jg_of (pg_v hN v1))
  (js_one (js_if (jt_cmp o_notInS (je_v v1) je_str rfl)
  (js_one (js_ret je_bl))
  js_nil)))
  (js_one (js_ret (je_or (je_cmp o_lt (je_bi b_len gl_len fr_len RT.boot_len (ja_cons (je_v v0) ja_nil)) je_int (nomark _)) (je_one (je_cmp (o_eq hr) (je_v v0) je_str (nomark _))))))))
theorem g__law_figures (KX : K.In base) (GX : base.Ns mainGlobals mg) (c : He.SaysD fa fn K) (hxb : xb K = true) (hns : BaseOk K mg base) (htr : P.given.tree = none) (hpr : PrgOk P file) (hml : el.map (fun d => mtW K d.x) = el.map ErD.val) : FnG P w K mg base "_law_figures" 1 PG.sp__law_figures [] := by
  obtain ⟨fd, F⟩ := c.def_ 39 (d := dd__law_figures) rfl
  unfold PG.sp__law_figures
  exact mkG (N := (["_law_word", "_law_sign"] : List Str)) false hns htr F (He.glo_ok KX GX (c.fact 39 (f := .glo "_law_figures") rfl)) sc__law_figures rfl rfl (fun _ _ _ _ _ _ us hl => match us, hl with | [_], _ => rfl) (fun X cdv A outer s H E hX hcd am => by subst hX; exact d__law_figures am sc__law_figures.nd rfl PassesOwn.never rfl rfl (fun _ => rfl) (He.free_ok KX GX (c.fact 46 (f := .free "len") rfl)))

theorem sc__law_is_number : FnScope (["_law_word", "_law_parts", "_law_part"] : List Str) (["_law_word"] : List Str) (defScope s__law_is_number) := ⟨rfl, rfl, rfl, by decide +kernel, rfl, by decide +kernel, by decide +kernel⟩
theorem d__law_is_number {X : Cx} (am : Amb 1 X) (hN : X.N.Nodup) (hc : X.calm = true) (hxe : PassesOwn (model X.prog X.w) X.A X.env X.xe) (eN : X.N = (["_law_word", "_law_parts", "_law_part"] : List Str)) (eS : X.env.scope = defScope s__law_is_number) (hfn : ∀ x, X.fn x = true) (fr_len : X.mg "len" = none) (G__law_figures : FnG X.prog X.w X.K X.mg X.base "_law_figures" 1 PG.sp__law_figures []) : JSs X (defBody s__law_is_number) PG.w__law_is_number := by
  have hr := am.rm
  have n0 : X.N[0]? = some ("_law_word" : Str) := by rw [eN]; rfl
  have v0 : SlotOk X 0 "_law_word" := slot_of eS eN hfn rfl (.inl rfl)
  have n1 : X.N[1]? = some ("_law_parts" : Str) := by rw [eN]; rfl
  have v1 : SlotOk X 1 "_law_parts" := slot_of eS eN hfn rfl (.inl rfl)
  have n2 : X.N[2]? = some ("_law_part" : Str) := by rw [eN]; rfl
  have v2 : SlotOk X 2 "_law_part" := slot_of eS eN hfn rfl (.inl rfl)
  have gl_len : Gl X "len" := gl_of eS rfl
  have gl__law_figures : Gl X "_law_figures" := gl_of eS rfl
  exact (js_cons (js_if (jt_cmp (o_eq hr) (je_v v0) je_str (nomark _))
  (js_one (js_ret je_bl))
  js_nil)
  (js_cons (js_if (jt_cmp (o_eq hr) (je_slS (je_v v0) jo_none (jo_some je_int)) je_str (nomark _))
  (js_one (js_st hN v0 (je_slS (je_v v0) (jo_some je_int) jo_none)))
  js_nil)
  (js_cons (js_st hN v1 (je_split (je_v v0) je_str))
  (js_cons (js_if (jt_cmp o_gt (je_bi b_len gl_len fr_len RT.boot_len (ja_cons (je_v v1) ja_nil)) je_int (nomark _))
  (js_one (js_ret je_bl))
  js_nil)
  (js_cons (js_for hxe hc (ji_any (je_v v1)) (jg_of (pg_v hN v2))
  (js_one (js_if (jt_not (jt_tru (je_cg G__law_figures hr gl__law_figures (ja_cons (je_v v2) ja_nil))))
  (js_one (js_ret je_bl))
  js_nil)))
  (js_one (js_ret je_bl)))))))
theorem g__law_is_number (KX : K.In base) (GX : base.Ns mainGlobals mg) (c : He.SaysD fa fn K) (hxb : xb K = true) (hns : BaseOk K mg base) (htr : P.given.tree = none) (hpr : PrgOk P file) (hml : el.map (fun d => mtW K d.x) = el.map ErD.val) : FnG P w K mg base "_law_is_number" 2 PG.sp__law_is_number [] := by
  obtain ⟨fd, F⟩ := c.def_ 40 (d := dd__law_is_number) rfl
  unfold PG.sp__law_is_number
  exact mkG (N := (["_law_word", "_law_parts", "_law_part"] : List Str)) false hns htr F (He.glo_ok KX GX (c.fact 40 (f := .glo "_law_is_number") rfl)) sc__law_is_number rfl rfl (fun _ _ _ _ _ _ us hl => match us, hl with | [_], _ => rfl) (fun X cdv A outer s H E hX hcd am => by subst hX; exact d__law_is_number am sc__law_is_number.nd rfl PassesOwn.never rfl rfl (fun _ => rfl) (He.free_ok KX GX (c.fact 46 (f := .free "len") rfl)) (g__law_figures (P := P) (w := w) KX GX c hxb hns htr hpr hml))

theorem sc__law_next : FnScope (["_law_state", "_law_word"] : List Str) (["_law_state", "_law_word"] : List Str) (defScope s__law_next) := ⟨rfl, rfl, rfl, by decide +kernel, rfl, by decide +kernel, by decide +kernel⟩
theorem d__law_next {X : Cx} (am : Amb 2 X) (hN : X.N.Nodup) (hc : X.calm = true) (hxe : PassesOwn (model X.prog X.w) X.A X.env X.xe) (eN : X.N = (["_law_state", "_law_word"] : List Str)) (eS : X.env.scope = defScope s__law_next) (hfn : ∀ x, X.fn x = true) (G__law_is_number : FnG X.prog X.w X.K X.mg X.base "_law_is_number" 2 PG.sp__law_is_number []) : JSs X (defBody s__law_next) PG.w__law_next := by
  have hr := am.rm
  have n0 : X.N[0]? = some ("_law_state" : Str) := by rw [eN]; rfl
  have v0 : SlotOk X 0 "_law_state" := slot_of eS eN hfn rfl (.inl rfl)
  have n1 : X.N[1]? = some ("_law_word" : Str) := by rw [eN]; rfl
  have v1 : SlotOk X 1 "_law_word" := slot_of eS eN hfn rfl (.inl rfl)
  have gl__law_is_number : Gl X "_law_is_number" := gl_of eS rfl
  exact (js_cons (js_if (jt_cmp (o_eq hr) (je_v v0) je_str (nomark _))
  (js_one (js_ret (je_dlget hr (kvs := [(("gap" : Str), .str ("one" : Str)), (("prism" : Str), .str ("one" : Str)), (("afocal" : Str), .str ("one" : Str)), (("lens" : Str), .str ("power" : Str)), (("stop" : Str), .str ("stop" : Str))]) (.cons .str (.cons .str (.cons .str (.cons .str (.cons .str .nil))))) (je_v v1) je_str ⟨rfl, rfl, rfl, rfl⟩)))
  js_nil)
  (js_cons (js_if (jt_cmp (o_in hr) (je_v v0) (je_lst (ja_cons je_str (ja_cons je_str (ja_cons je_str (ja_cons je_str (ja_cons je_str ja_nil)))))) rfl)
  (js_cons (js_if (jt_not (jt_tru (je_cg G__law_is_number hr gl__law_is_number (ja_cons (je_v v1) ja_nil))))
  (js_one (js_ret je_str))
  js_nil)
  (js_one (js_ret (je_dlit hr (kvs := [(("one" : Str), .str ("end" : Str)), (("power" : Str), .str ("lens" : Str)), (("center" : Str), .str ("end" : Str)), (("lower" : Str), .str ("low" : Str)), (("upper" : Str), .str ("end" : Str))]) (.cons .str (.cons .str (.cons .str (.cons .str (.cons .str .nil))))) (je_v v0)))))
  js_nil)
  (js_cons (js_if (jt_cmp (o_eq hr) (je_v v1) je_str (nomark _))
  (js_one (js_ret je_str))
  js_nil)
  (js_cons (js_if (jw_pt (jw_and (jt_cmp (o_eq hr) (je_v v0) je_str (nomark _)) (jw_and1 (jt_cmp (o_eq hr) (je_v v1) je_str (nomark _)))))
  (js_one (js_ret je_str))
  js_nil)
  (js_cons (js_if (jw_pt (jw_and (jt_cmp (o_eq hr) (je_v v0) je_str (nomark _)) (jw_and1 (jt_cmp (o_eq hr) (je_v v1) je_str (nomark _)))))
  (js_one (js_ret je_str))
  js_nil)
  (js_cons (js_if (jw_pt (jw_and (jt_cmp (o_in hr) (je_v v0) (je_lst (ja_cons je_str (ja_cons je_str ja_nil))) rfl) (jw_and1 (jt_cmp (o_eq hr) (je_v v1) je_str (nomark _)))))
  (js_one (js_ret je_str))
  js_nil)
  (js_one (js_ret je_str))))))))
theorem g__law_next (KX : K.In base) (GX : base.Ns mainGlobals mg) (c : He.SaysD fa fn K) (hxb : xb K = true) (hns : BaseOk K mg base) (htr : P.given.tree = none) (hpr : PrgOk P file) (hml : el.map (fun d => mtW K d.x) = el.map ErD.val) : FnG P w K mg base "_law_next" 3 PG.sp__law_next [] := by
  obtain ⟨fd, F⟩ := c.def_ 41 (d := dd__law_next) rfl
  unfold PG.sp__law_next
  exact mkG (N := (["_law_state", "_law_word"] : List Str)) false hns htr F (He.glo_ok KX GX (c.fact 41 (f := .glo "_law_next") rfl)) sc__law_next rfl rfl (fun _ _ _ _ _ _ us hl => match us, hl with | [_, _], _ => rfl) (fun X cdv A outer s H E hX hcd am => by subst hX; exact d__law_next am sc__law_next.nd rfl PassesOwn.never rfl rfl (fun _ => rfl) (g__law_is_number (P := P) (w := w) KX GX c hxb hns htr hpr hml))

theorem sc__law_due : FnScope (["_law_words", "_law_state", "_law_k"] : List Str) (["_law_words"] : List Str) (defScope s__law_due) := ⟨rfl, rfl, rfl, by decide +kernel, rfl, by decide +kernel, by decide +kernel⟩
theorem d__law_due {X : Cx} (am : Amb 3 X) (hN : X.N.Nodup) (hc : X.calm = true) (hxe : PassesOwn (model X.prog X.w) X.A X.env X.xe) (eN : X.N = (["_law_words", "_law_state", "_law_k"] : List Str)) (eS : X.env.scope = defScope s__law_due) (hfn : ∀ x, X.fn x = true) (fr_len : X.mg "len" = none) (fr_range : X.mg "range" = none) (G__law_next : FnG X.prog X.w X.K X.mg X.base "_law_next" 3 PG.sp__law_next []) : JSs X (defBody s__law_due) PG.w__law_due_7 := by
  have hr := am.rm
  have n0 : X.N[0]? = some ("_law_words" : Str) := by rw [eN]; rfl
  have v0 : SlotOk X 0 "_law_words" := slot_of eS eN hfn rfl (.inl rfl)
  have n1 : X.N[1]? = some ("_law_state" : Str) := by rw [eN]; rfl
  have v1 : SlotOk X 1 "_law_state" := slot_of eS eN hfn rfl (.inl rfl)
  have n2 : X.N[2]? = some ("_law_k" : Str) := by rw [eN]; rfl
  have v2 : SlotOk X 2 "_law_k" := slot_of eS eN hfn rfl (.inl rfl)
  have gl_len : Gl X "len" := gl_of eS rfl
  have gl_range : Gl X "range" := gl_of eS rfl
  have gl__law_next : Gl X "_law_next" := gl_of eS rfl
  exact (js_cons (js_if (jt_cmp (o_eq hr) (je_bi b_len gl_len fr_len RT.boot_len (ja_cons (je_v v0) ja_nil)) je_int (nomark _))
  (js_one (js_ret je_int))
  js_nil)
  (js_cons (js_st hN v1 je_str)
  (js_cons (js_for hxe hc (ji_range1 gl_range fr_range (ja_cons (je_bi b_len gl_len fr_len RT.boot_len (ja_cons (je_v v0) ja_nil)) ja_nil)) (jg_of (pg_v hN v2))
  (js_cons (js_st hN v1 (je_cg G__law_next hr gl__law_next (ja_cons (je_v v1) (ja_cons (je_ix (je_v v0) (je_v v2)) ja_nil))))
  (js_one (js_if (jt_cmp (o_eq hr) (je_v v1) je_str (nomark _))
  (js_one (js_ret (je_op o_addA (je_v v2) je_int)))
  js_nil))))
  (js_cons (js_if (jt_cmp (o_in hr) (je_v v1) (je_lst (ja_cons je_str (ja_cons je_str (ja_cons je_str (ja_cons je_str (ja_cons je_str (ja_cons je_str ja_nil))))))) rfl)
  (js_one (js_ret (je_neg je_int)))
  js_nil)
  (js_one (js_ret je_int))))))
theorem g__law_due (KX : K.In base) (GX : base.Ns mainGlobals mg) (c : He.SaysD fa fn K) (hxb : xb K = true) (hns : BaseOk K mg base) (htr : P.given.tree = none) (hpr : PrgOk P file) (hml : el.map (fun d => mtW K d.x) = el.map ErD.val) : FnG P w K mg base "_law_due" 4 PG.sp__law_due_7 [] := by
  obtain ⟨fd, F⟩ := c.def_ 42 (d := dd__law_due) rfl
  unfold PG.sp__law_due_7
  exact mkG (N := (["_law_words", "_law_state", "_law_k"] : List Str)) false hns htr F (He.glo_ok KX GX (c.fact 42 (f := .glo "_law_due") rfl)) sc__law_due rfl rfl (fun _ _ _ _ _ _ us hl => match us, hl with | [_], _ => rfl) (fun X cdv A outer s H E hX hcd am => by subst hX; exact d__law_due am sc__law_due.nd rfl PassesOwn.never rfl rfl (fun _ => rfl) (He.free_ok KX GX (c.fact 46 (f := .free "len") rfl)) (He.free_ok KX GX (c.fact 50 (f := .free "range") rfl)) (g__law_next (P := P) (w := w) KX GX c hxb hns htr hpr hml))

theorem sc__law_told : FnScope (["_law_text", "e"] : List Str) (["_law_text"] : List Str) (defScope s__law_told) := ⟨rfl, rfl, rfl, by decide +kernel, rfl, by decide +kernel, by decide +kernel⟩
theorem d__law_told {X : Cx} {Wx : WX} (tk : Takes X Wx) (am : Amb 10 X) (hN : X.N.Nodup) (hc : X.calm = true) (hxe : PassesOwn (model X.prog X.w) X.A X.env X.xe) (eN : X.N = (["_law_text", "e"] : List Str)) (eS : X.env.scope = defScope s__law_told) (hfn : ∀ x, X.fn x = true) (hsk : X.stack = X.env :: X.outer) (hfl : X.env.frame = some X.env.locals) (fr_isinstance : X.mg "isinstance" = none) (O_parse_train : FnO X.prog X.w X.K X.mg X.base "parse_train" 10 PG.sp_parse_train) (E_exmB_EndError_RaytrainError : ExmG X.K X.mg "EndError" "RaytrainError") (E_exuB_EndError : ExcU X.K "EndError") (E_isiB_EndError_TokenError_False : IsiG X.K X.mg "EndError" "TokenError" false) (E_isiB_EndError_EndError_True : IsiG X.K X.mg "EndError" "EndError" true) (E_isiB_EndError_BadTrain_False : IsiG X.K X.mg "EndError" "BadTrain" false) (E_exmB_TokenError_RaytrainError : ExmG X.K X.mg "TokenError" "RaytrainError") (E_exuB_TokenError : ExcU X.K "TokenError") (E_isiB_TokenError_TokenError_True : IsiG X.K X.mg "TokenError" "TokenError" true) (E_isiB_TokenError_EndError_False : IsiG X.K X.mg "TokenError" "EndError" false) (E_isiB_TokenError_BadTrain_False : IsiG X.K X.mg "TokenError" "BadTrain" false) (E_exmB_BadTrain_RaytrainError : ExmG X.K X.mg "BadTrain" "RaytrainError") (E_exuB_BadTrain : ExcU X.K "BadTrain") (E_isiB_BadTrain_TokenError_False : IsiG X.K X.mg "BadTrain" "TokenError" false) (E_isiB_BadTrain_EndError_False : IsiG X.K X.mg "BadTrain" "EndError" false) (E_isiB_BadTrain_BadTrain_True : IsiG X.K X.mg "BadTrain" "BadTrain" true) : JSOs X Wx (defBody s__law_told) PG.w__law_told_2 := by
  have hr := am.rm
  have n0 : X.N[0]? = some ("_law_text" : Str) := by rw [eN]; rfl
  have v0 : SlotOk X 0 "_law_text" := slot_of eS eN hfn rfl (.inl rfl)
  have n1 : X.N[1]? = some ("e" : Str) := by rw [eN]; rfl
  have v1 : SlotOk X 1 "e" := slot_of eS eN hfn rfl (.inl rfl)
  have gl_parse_train : Gl X "parse_train" := gl_of eS rfl
  have gl_RaytrainError : Gl X "RaytrainError" := gl_of eS rfl
  have gl_isinstance : Gl X "isinstance" := gl_of eS rfl
  have gl_TokenError : Gl X "TokenError" := gl_of eS rfl
  have gl_EndError : Gl X "EndError" := gl_of eS rfl
  have gl_BadTrain : Gl X "BadTrain" := gl_of eS rfl
  exact (so_cons (so_try (i := 1) hsk hfl hN n1 (by show X.env.scope.names.lookup _ = _; rw [eS]; rfl) tk gl_RaytrainError (Exists.choose_spec E_exmB_EndError_RaytrainError).1 (by decide)
  (fun x t hm v hv => by (rcases List.mem_cons.mp hm with e | hm; (cases e; exact (ExmG.at E_exmB_EndError_RaytrainError (Exists.choose_spec E_exmB_EndError_RaytrainError).1 v hv)); (rcases List.mem_cons.mp hm with e | hm; (cases e; exact (ExmG.at E_exmB_TokenError_RaytrainError (Exists.choose_spec E_exmB_EndError_RaytrainError).1 v hv)); (cases List.mem_singleton.mp hm; exact (ExmG.at E_exmB_BadTrain_RaytrainError (Exists.choose_spec E_exmB_EndError_RaytrainError).1 v hv)))))
  (fun Wx pn xe tk po => by have n0 : (X.tr pn xe).N[0]? = some ("_law_text" : Str) := n0; have v0 : SlotOk (X.tr pn xe) 0 "_law_text" := v0.tr pn xe; have n1 : (X.tr pn xe).N[1]? = some ("e" : Str) := n1; have v1 : SlotOk (X.tr pn xe) 1 "e" := v1.tr pn xe; have gl_parse_train : Gl (X.tr pn xe) "parse_train" := gl_parse_train; have gl_RaytrainError : Gl (X.tr pn xe) "RaytrainError" := gl_RaytrainError; have gl_isinstance : Gl (X.tr pn xe) "isinstance" := gl_isinstance; have gl_TokenError : Gl (X.tr pn xe) "TokenError" := gl_TokenError; have gl_EndError : Gl (X.tr pn xe) "EndError" := gl_EndError; have gl_BadTrain : Gl (X.tr pn xe) "BadTrain" := gl_BadTrain; have am : Amb 10 (X.tr pn xe) := ⟨am.rm, am.py, am.tb⟩; have hr : GRoom 10 (X.tr pn xe).A := am.rm; have hxe := po; have eN : (X.tr pn xe).N = _ := eN; have eS : (X.tr pn xe).env.scope = _ := eS;  exact (so_one (so_do (eo_call O_parse_train hr gl_parse_train tk (ao_of (fun os => by letI : Ghost := gho X.K os; exact (ja_cons (je_v v0) ja_nil)))))))
  (fun a bd oe pn x t v os hm hv hz hf => by letI : Ghost := gho X.K os; have n0 : (X.suite a ((a, oe) :: pn)).N[0]? = some ("_law_text" : Str) := n0; have v0 : SlotOk (X.suite a ((a, oe) :: pn)) 0 "_law_text" := v0.su a _; have n1 : (X.suite a ((a, oe) :: pn)).N[1]? = some ("e" : Str) := n1; have v1 : SlotOk (X.suite a ((a, oe) :: pn)) 1 "e" := v1.su a _; have gl_parse_train : Gl (X.suite a ((a, oe) :: pn)) "parse_train" := gl_parse_train; have gl_RaytrainError : Gl (X.suite a ((a, oe) :: pn)) "RaytrainError" := gl_RaytrainError; have gl_isinstance : Gl (X.suite a ((a, oe) :: pn)) "isinstance" := gl_isinstance; have gl_TokenError : Gl (X.suite a ((a, oe) :: pn)) "TokenError" := gl_TokenError; have gl_EndError : Gl (X.suite a ((a, oe) :: pn)) "EndError" := gl_EndError; have gl_BadTrain : Gl (X.suite a ((a, oe) :: pn)) "BadTrain" := gl_BadTrain; have hu : (X.suite a ((a, oe) :: pn)).A.units + 64 < cLine := hr.room.units;  (rcases List.mem_cons.mp hm with e | hm; (cases e; exact (js_cons (js_if (jt_tru (je_isX E_exuB_EndError hv hz hf E_isiB_EndError_TokenError_False n1 v1.vis gl_isinstance fr_isinstance gl_TokenError)) (js_one (js_ret je_never)) js_nil) (js_cons (js_if (jt_tru (je_isX E_exuB_EndError hv hz hf E_isiB_EndError_EndError_True n1 v1.vis gl_isinstance fr_isinstance gl_EndError)) (js_one (js_ret (je_neg je_int))) js_nil) (js_cons (js_if (jt_tru (je_isX E_exuB_EndError hv hz hf E_isiB_EndError_BadTrain_False n1 v1.vis gl_isinstance fr_isinstance gl_BadTrain)) (js_one (js_ret je_int)) js_nil) (js_one (js_ret (je_neg je_int))))))); (rcases List.mem_cons.mp hm with e | hm; (cases e; exact (js_cons (js_if (jt_tru (je_isX E_exuB_TokenError hv hz hf E_isiB_TokenError_TokenError_True n1 v1.vis gl_isinstance fr_isinstance gl_TokenError)) (js_one (js_ret (je_xf E_exuB_TokenError hv hz hf rfl n1 v1.vis))) js_nil) (js_cons (js_if (jt_tru (je_isX E_exuB_TokenError hv hz hf E_isiB_TokenError_EndError_False n1 v1.vis gl_isinstance fr_isinstance gl_EndError)) (js_one (js_ret (je_neg je_int))) js_nil) (js_cons (js_if (jt_tru (je_isX E_exuB_TokenError hv hz hf E_isiB_TokenError_BadTrain_False n1 v1.vis gl_isinstance fr_isinstance gl_BadTrain)) (js_one (js_ret je_int)) js_nil) (js_one (js_ret (je_neg je_int))))))); (cases List.mem_singleton.mp hm; exact (js_cons (js_if (jt_tru (je_isX E_exuB_BadTrain hv hz hf E_isiB_BadTrain_TokenError_False n1 v1.vis gl_isinstance fr_isinstance gl_TokenError)) (js_one (js_ret je_never)) js_nil) (js_cons (js_if (jt_tru (je_isX E_exuB_BadTrain hv hz hf E_isiB_BadTrain_EndError_False n1 v1.vis gl_isinstance fr_isinstance gl_EndError)) (js_one (js_ret (je_neg je_int))) js_nil) (js_cons (js_if (jt_tru (je_isX E_exuB_BadTrain hv hz hf E_isiB_BadTrain_BadTrain_True n1 v1.vis gl_isinstance fr_isinstance gl_BadTrain)) (js_one (js_ret je_int)) js_nil) (js_one (js_ret (je_neg je_int)))))))))))
  (so_one (so_of (fun os => by letI : Ghost := gho X.K os; exact (js_ret je_int)))))
theorem o__law_told (KX : K.In base) (GX : base.Ns mainGlobals mg) (c : He.SaysD fa fn K) (hxb : xb K = true) (hns : BaseOk K mg base) (htr : P.given.tree = none) (hpr : PrgOk P file) (hml : el.map (fun d => mtW K d.x) = el.map ErD.val) : FnO P w K mg base "_law_told" 11 PG.sp__law_told_2 := by
  obtain ⟨fd, F⟩ := c.def_ 43 (d := dd__law_told) rfl
  unfold PG.sp__law_told_2
  exact mkO (N := (["_law_text", "e"] : List Str)) hns htr F (He.glo_ok KX GX (c.fact 43 (f := .glo "_law_told") rfl)) sc__law_told rfl rfl (by decide) (fun _ _ _ _ _ _ us hl => match us, hl with | [_], _ => rfl) (fun X Wx cdv A outer s H E hX tk hcd am => by subst hX; exact d__law_told tk am sc__law_told.nd rfl (passes_of rfl) rfl rfl (fun _ => rfl) rfl rfl (He.free_ok KX GX (c.fact 51 (f := .free "isinstance") rfl)) (o_parse_train (P := P) (w := w) KX GX c hxb hns htr hpr hml) (e_exmB_EndError_RaytrainError KX GX hxb) (e_exuB_EndError hxb) (e_isiB_EndError_TokenError_False KX GX hxb) (e_isiB_EndError_EndError_True KX GX hxb) (e_isiB_EndError_BadTrain_False KX GX hxb) (e_exmB_TokenError_RaytrainError KX GX hxb) (e_exuB_TokenError hxb) (e_isiB_TokenError_TokenError_True KX GX hxb) (e_isiB_TokenError_EndError_False KX GX hxb) (e_isiB_TokenError_BadTrain_False KX GX hxb) (e_exmB_BadTrain_RaytrainError KX GX hxb) (e_exuB_BadTrain hxb) (e_isiB_BadTrain_TokenError_False KX GX hxb) (e_isiB_BadTrain_EndError_False KX GX hxb) (e_isiB_BadTrain_BadTrain_True KX GX hxb))
theorem g__law_told (KX : K.In base) (GX : base.Ns mainGlobals mg) (c : He.SaysD fa fn K) (hxb : xb K = true) (hns : BaseOk K mg base) (htr : P.given.tree = none) (hpr : PrgOk P file) (hml : el.map (fun d => mtW K d.x) = el.map ErD.val) : FnG P w K mg base "_law_told" 11 (spBr false PG.sp__law_told_2) [] := (o__law_told (P := P) (w := w) KX GX c hxb hns htr hpr hml).br false

theorem sc_law : FnScope (["_law_script", "_law_box", "_law_words", "_law_turn", "_law_bank", "_law_word", "_law_kind", "_law_at", "_law_told_here"] : List Str) (["_law_script"] : List Str) (defScope s_law) := ⟨rfl, rfl, rfl, by decide +kernel, rfl, by decide +kernel, by decide +kernel⟩
theorem d_law {X : Cx} (am : Amb 11 X) (hN : X.N.Nodup) (hc : X.calm = true) (hxe : PassesOwn (model X.prog X.w) X.A X.env X.xe) (eN : X.N = (["_law_script", "_law_box", "_law_words", "_law_turn", "_law_bank", "_law_word", "_law_kind", "_law_at", "_law_told_here"] : List Str)) (eS : X.env.scope = defScope s_law) (hfn : ∀ x, X.fn x = true) (fr_range : X.mg "range" = none) (fr_len : X.mg "len" = none) (fr_isinstance : X.mg "isinstance" = none) (fr_bool : X.mg "bool" = none) (G__law_digits : FnG X.prog X.w X.K X.mg X.base "_law_digits" 2 PG.sp__law_digits []) (G__law_draw : FnG X.prog X.w X.K X.mg X.base "_law_draw" 1 PG.sp__law_draw []) (G__law_told : FnG X.prog X.w X.K X.mg X.base "_law_told" 11 (spBr false PG.sp__law_told_2) []) (G__law_due : FnG X.prog X.w X.K X.mg X.base "_law_due" 4 PG.sp__law_due_7 []) : JSs X (defBody s_law) PG.w_law_47 := by
  have hr := am.rm
  have n0 : X.N[0]? = some ("_law_script" : Str) := by rw [eN]; rfl
  have v0 : SlotOk X 0 "_law_script" := slot_of eS eN hfn rfl (.inl rfl)
  have n1 : X.N[1]? = some ("_law_box" : Str) := by rw [eN]; rfl
  have v1 : SlotOk X 1 "_law_box" := slot_of eS eN hfn rfl (.inl rfl)
  have n2 : X.N[2]? = some ("_law_words" : Str) := by rw [eN]; rfl
  have v2 : SlotOk X 2 "_law_words" := slot_of eS eN hfn rfl (.inl rfl)
  have n3 : X.N[3]? = some ("_law_turn" : Str) := by rw [eN]; rfl
  have v3 : SlotOk X 3 "_law_turn" := slot_of eS eN hfn rfl (.inl rfl)
  have n4 : X.N[4]? = some ("_law_bank" : Str) := by rw [eN]; rfl
  have v4 : SlotOk X 4 "_law_bank" := slot_of eS eN hfn rfl (.inl rfl)
  have n5 : X.N[5]? = some ("_law_word" : Str) := by rw [eN]; rfl
  have v5 : SlotOk X 5 "_law_word" := slot_of eS eN hfn rfl (.inl rfl)
  have n6 : X.N[6]? = some ("_law_kind" : Str) := by rw [eN]; rfl
  have v6 : SlotOk X 6 "_law_kind" := slot_of eS eN hfn rfl (.inl rfl)
  have n7 : X.N[7]? = some ("_law_at" : Str) := by rw [eN]; rfl
  have v7 : SlotOk X 7 "_law_at" := slot_of eS eN hfn rfl (.inl rfl)
  have n8 : X.N[8]? = some ("_law_told_here" : Str) := by rw [eN]; rfl
  have v8 : SlotOk X 8 "_law_told_here" := slot_of eS eN hfn rfl (.inl rfl)
  have gl__law_digits : Gl X "_law_digits" := gl_of eS rfl
  have gl_range : Gl X "range" := gl_of eS rfl
  have gl__law_draw : Gl X "_law_draw" := gl_of eS rfl
  have gl_len : Gl X "len" := gl_of eS rfl
  have gl__law_told : Gl X "_law_told" := gl_of eS rfl
  have gl__law_due : Gl X "_law_due" := gl_of eS rfl
  have gl_isinstance : Gl X "isinstance" := gl_of eS rfl
  have gl_bool : Gl X "bool" := gl_of eS rfl
  exact (js_cons (js_st hN v1 (je_lstO (ja_cons (je_cg G__law_digits hr gl__law_digits (ja_cons (je_v v0) (ja_cons je_int (ja_cons je_int ja_nil)))) (ja_cons je_int ja_nil))))
  (js_cons (js_st hN v2 (je_lst ja_nil))
  (js_cons (js_for hxe hc (ji_range1 gl_range fr_range (ja_cons je_int ja_nil)) (jg_of (pg_v hN v3))
  (js_cons (js_st hN v4 (je_lst (ja_cons je_str (ja_cons je_str (ja_cons je_str (ja_cons je_str (ja_cons je_str (ja_cons je_str (ja_cons je_str (ja_cons je_str (ja_cons je_str (ja_cons je_str (ja_cons je_str (ja_cons je_str (ja_cons je_str ja_nil)))))))))))))))
  (js_cons (js_st hN v4 (je_op o_addA (je_v v4) (je_lst (ja_cons je_str (ja_cons je_str (ja_cons je_str (ja_cons je_str (ja_cons je_str (ja_cons je_str (ja_cons je_str (ja_cons je_str (ja_cons je_str (ja_cons je_str (ja_cons je_str (ja_cons je_str ja_nil)))))))))))))))
  (js_cons (js_st hN v5 (je_ix (je_v v4) (je_cg G__law_draw hr gl__law_draw (ja_cons (je_v v1) (ja_cons je_int ja_nil)))))
  (js_cons (js_st hN v6 (je_cg G__law_draw hr gl__law_draw (ja_cons (je_v v1) (ja_cons je_int ja_nil))))
  (js_cons (js_if (jt_cmp (o_eq hr) (je_v v6) je_int (nomark _))
  (js_cons (js_st hN v2 (je_op o_addA (je_v v2) (je_lst (ja_cons je_str (ja_cons je_str (ja_cons je_str (ja_cons je_str (ja_cons je_str (ja_cons je_str (ja_cons je_str (ja_cons je_str (ja_cons je_str (ja_cons je_str (ja_cons je_str (ja_cons je_str (ja_cons je_str ja_nil))))))))))))))))
  (js_one (js_st hN v2 (je_sl false (je_v v2) jo_none (jo_some (je_cg G__law_draw hr gl__law_draw (ja_cons (je_v v1) (ja_cons (je_op o_addA (je_bi b_len gl_len fr_len RT.boot_len (ja_cons (je_v v2) ja_nil)) je_int) ja_nil))))))))
  (js_one (js_if (jw_pt (jw_and (jt_cmp (o_eq hr) (je_v v6) je_int (nomark _)) (jw_and1 (jt_cmp o_gt (je_bi b_len gl_len fr_len RT.boot_len (ja_cons (je_v v2) ja_nil)) je_int (nomark _)))))
  (js_cons (js_st hN v7 (je_cg G__law_draw hr gl__law_draw (ja_cons (je_v v1) (ja_cons (je_bi b_len gl_len fr_len RT.boot_len (ja_cons (je_v v2) ja_nil)) ja_nil))))
  (js_one (js_st hN v2 (je_op o_addA (je_op o_addA (je_sl false (je_v v2) jo_none (jo_some (je_v v7))) (je_lst (ja_cons (je_v v5) ja_nil))) (je_sl false (je_v v2) (jo_some (je_op o_addA (je_v v7) (je_cg G__law_draw hr gl__law_draw (ja_cons (je_v v1) (ja_cons je_int ja_nil))))) jo_none)))))
  (js_one (js_st hN v2 (je_op o_addA (je_v v2) (je_lst (ja_cons (je_v v5) ja_nil))))))))
  (js_cons (js_st hN v8 (je_cg G__law_told hr gl__law_told (ja_cons (je_join je_str (je_v v2)) ja_nil)))
  (js_cons (js_if (jw_pt (jw_or (jt_cmp (o_ne hr) (je_v v8) (je_cg G__law_due hr gl__law_due (ja_cons (je_v v2) ja_nil)) (nomark _)) (jw_or1 (jt_tru (je_isi .bool gl_isinstance fr_isinstance gl_bool fr_bool RT.boot_bool (je_v v8))))))
  (js_one (js_ret je_bl))
  js_nil)
  (js_one (js_if (jt_cmp o_gt (je_v v8) je_int (nomark _))
  (js_one (js_st hN v2 (je_sl false (je_v v2) jo_none (jo_some (je_op o_sub (je_v v8) je_int)))))
  js_nil))))))))))
  (js_one (js_ret je_bl)))))
theorem f_law (KX : K.In base) (GX : base.Ns mainGlobals mg) (c : He.SaysD fa fn K) (hxb : xb K = true) (hns : BaseOk K mg base) (htr : P.given.tree = none) (hpr : PrgOk P file) (hml : el.map (fun d => mtW K d.x) = el.map ErD.val) {fd : FuncData} (F : FunD K dd_law.name dd_law.qual dd_law.params dd_law.body dd_law.scope (dd_law.dvs K) (dd_law.kws K) (He.fAd K dd_law.at_) fd) : Fnn P w K mg base CX0 12 (He.fAd K dd_law.at_) fd (["_law_script"] : List Str) (liftSp K PG.sp_law_47) := by
  unfold PG.sp_law_47
  exact mkF (N := (["_law_script", "_law_box", "_law_words", "_law_turn", "_law_bank", "_law_word", "_law_kind", "_law_at", "_law_told_here"] : List Str)) false hns htr F sc_law rfl rfl (fun X cdv A outer s H E hX hcd am => by subst hX; exact d_law am sc_law.nd rfl PassesOwn.never rfl rfl (fun _ => rfl) (He.free_ok KX GX (c.fact 50 (f := .free "range") rfl)) (He.free_ok KX GX (c.fact 46 (f := .free "len") rfl)) (He.free_ok KX GX (c.fact 51 (f := .free "isinstance") rfl)) (He.free_ok KX GX (c.fact 53 (f := .free "bool") rfl)) (g__law_digits (P := P) (w := w) KX GX c hxb hns htr hpr hml) (g__law_draw (P := P) (w := w) KX GX c hxb hns htr hpr hml) (g__law_told (P := P) (w := w) KX GX c hxb hns htr hpr hml) (g__law_due (P := P) (w := w) KX GX c hxb hns htr hpr hml))

end

abbrev R : PySem.W.OpenRow := PySem.W.OpenLaw.row PySem.Challenge.rw_raytrain_k18_first_token_that_cannot_sta
abbrev hk : PySem.W.Hook := hookM 2 ml fa fn el xb
def ob (s : PySem.W.SharedT) : AlR × List MtW := obsM 2 ml fa fn el xb (HandSHeadRun.getT s)
theorem ob_eq (s : PySem.W.SharedT) : ob s = hk.obs s.abs := obsM_eq (HandSHeadRun.getT_eq s)
def loose : List Str := (["__name__", "RaytrainError", "TokenError", "EndError", "BadTrain", "ZERO", "common_divisor", "fraction", "add", "negative", "subtract", "sign", "compare", "is_less", "FIGURES", "PART_MOST", "LONGEST", "ELEMENTS_MOST", "STOPS_MOST", "WORDS", "tokens_of", "natural_of", "fraction_of", "Reader", "is_good", "parse_train", "_law_cell", "_law_digits", "_law_draw", "_law_divisor"] : List Str) ++ (["_law_fr", "_law_add", "_law_sub", "_law_mul", "_law_less", "_law_some", "_law_other", "_law_is_fr", "_law_stop", "_law_element", "_law_train", "_law_behind", "_law_blocks", "_law_go", "_law_ray", "_law_figures", "_law_is_number", "_law_next", "_law_due", "_law_told"] : List Str)
theorem run (w : World) : HandSHeadRun.RunEq R (PySem.W.view R.prog [53]) hk ob 12000 loose w := by
  intro os
  kernel_rfl
theorem facts {w : World} {K : PySem.W.Frag} {h : Heap} {mg : Str → Option Value} {f : Addr} (X : K.In h) (G : h.Ns mainGlobals mg) (hfa : mg ("law" : Str) = some (.ref f)) (c : He.SaysD fa fn K) (hxb : xb K = true) (hml : el.map (fun d => mtW K d.x) = el.map ErD.val) :
    ∃ fd : FuncData, (∀ (s : Shared) (v : Value), BindsTo s fd ⟨[v], []⟩ [("_law_script", v)]) ∧ ∀ base : Heap, K.In base → base.Ns mainGlobals mg → BaseOk K mg base → Fnn PySem.Challenge.rw_raytrain_k18_first_token_that_cannot_sta.prog w K mg base CX0 12 f fd ["_law_script"] (liftSp K PG.sp_law_47) := by
  obtain ⟨fd, F⟩ := c.def_ 44 (d := dd_law) rfl
  have e := hfa.symm.trans (He.glo_ok X G (c.fact 44 (f := .glo "law") rfl))
  cases e
  have b := FunD.bindsA (ps := ["_law_script"]) F fun _ _ _ _ _ _ us hl => match us, hl with | [_], _ => rfl
  exact ⟨fd, fun s v => b s [v] rfl, fun base KX GX hns => f_law KX GX c hxb hns rfl ⟨rfl, by rfl⟩ hml F⟩

end K18

open PySem PySem.W PySem.Calls PyProof.Rows
set_option maxHeartbeats 0 in
theorem K18.holds_of (law : RT.LawD 63 PG.sp_law_47) : PySem.Challenge.rw_raytrain_k18_first_token_that_cannot_sta.Holds := by
  w_on; o_law
  refine HandSHeadRun.head_any (r := OpenLaw.row PySem.Challenge.rw_raytrain_k18_first_token_that_cannot_sta) (q := view (OpenLaw.row PySem.Challenge.rw_raytrain_k18_first_token_that_cannot_sta).prog [53]) (H := K18.hk) (ob := K18.ob) (M := 12000) (loose := K18.loose) (d := HandSHeadRun.topDef (OpenLaw.row PySem.Challenge.rw_raytrain_k18_first_token_that_cannot_sta).prog 53) (kwd := []) K18.ob_eq
    (by kernel_rfl) (fun s => by kernel_rfl) K18.run (by kernel_rfl) (by kernel_rfl) (by kernel_rfl) (by rfl) (by first | assumption | decide +kernel) (by decide +kernel) ⟨rfl, rfl, rfl, rfl, rfl, by decide +kernel⟩ ?hw ?hc
  case hw => w_witness2
  case hc =>
    refine RT.walk_R (l := PySem.Challenge.rw_raytrain_k18_first_token_that_cannot_sta) (n := 63) (k := 12) (x := "_law_script") (sp := PG.sp_law_47) rfl (by decide) (by kernel_rfl) ⟨⟨rfl, by decide, by decide⟩, rfl, by decide⟩ (by kernel_rfl) law ?F
    intro w mg fa h Y G hmg0
    obtain ⟨K, KX, nl, tk, xbK, c, hml⟩ := Y
    have hmg : mg ("law" : PySem.Str) = some (.ref fa) := by
      have e : (HandSHeadRun.topDef (OpenLaw.row PySem.Challenge.rw_raytrain_k18_first_token_that_cannot_sta).prog 53).name = ("law" : PySem.Str) := by kernel_rfl
      rw [← e]
      exact hmg0
    obtain ⟨fd, hb, hF⟩ := K18.facts (w := w) KX G hmg c xbK hml
    exact ⟨K, fd, KX, nl, tk, hb, hF⟩

theorem PySem.Challenge.cw_raytrain_k18_first_token_that_cannot_sta_holds : PySem.Challenge.rw_raytrain_k18_first_token_that_cannot_sta.Holds :=
  K18.holds_of PG.law_k18

