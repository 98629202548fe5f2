import PyProof.Rows.All
import Wide.All
import OpenK.AllK
import Wide.FinOn
import HandS.AnyAll
import HandS.GenOver
import PyProof.GenCompD
import HandS.Zip
import KE.GoesZip
import KE.GoesMore
import KE.GoesEnum
import HandS.ForMost
import HandS.ForExc
import HandS.Wide
import HandS.HeadHook1
import HandS.IsInst
import HandS.Deep
import HandS.TupAny
import HandS.TupLe
import HandS.More
import HandS.EndBits
import HandS.Defaults
import HandS.Head0
import HandS.Head1
import HandS.Head2
import HandS.HeadEnd
import HandS.HeadHook2
import HandS.HeadHook4
import KE.KNestM
import PyProof.ReprRoads
import HandS.Style
import KE.DataFind
import PySem.Challenge.RW_raytrain_k40_half_planes_in_order
set_option Elab.async false
set_option linter.all false



set_option maxRecDepth 100000
set_option maxHeartbeats 4000000
/-! any, all of a generator expression whose element is any expression: by the state of its own frame. -/
namespace RG
open PySem PySem.Spec PyProof.Rows L2 GxR
/-- the context of a generator expression's frame -/
abbrev GCx (X : Cx) (s : Shared) (H : Hp) (cenv : Env) (fp : List Addr) (A : Around) : Cx :=
  { X with A := A, s_0 := s, H_0 := H, env := cenv, outer := X.stack, stack := cenv :: X.stack, ex := fp, fn := fun _ => false, pn := [], xe := fun _ _ => False }
section
variable {X : Cx} {pins : List (Addr × Obj)} {σ : L2.St} {H : Hp} {s : Shared}
theorem gens_irrel {s' : Shared} (I : Inv X pins σ H s) (hh : s'.heap = s.heap) (ho : s'.os = s.os) (hb : AllBare s'.gens) : Inv X pins σ H s' := by
  obtain ⟨h', g', d', t', o'⟩ := s'
  obtain ⟨h, g, d, t, o⟩ := s
  cases hh
  cases ho
  exact ⟨I.ok, I.os, hb, I.base, I.loc, I.cell, I.free, I.freeC, I.pin, I.hok, I.len⟩
theorem bare_set {s : Shared} {g : Nat} {x : GenState} (h : AllBare s.gens) (hx : x.bare = true) : AllBare (s.setGen g x).gens := fun y hy => by
  have hy' : y ∈ s.gens.setIfInBounds g x := hy
  rcases Array.mem_or_eq_of_mem_setIfInBounds hy' with z | z
  · exact h y z
  · rw [z]
    exact hx
theorem gen_start {scope : Scope} {own : List (Str × Nat)} {fp : List Addr} {C ag : Addr} {og : Obj} {code : Value} {m0 : Str → Option Value} {A' : Around} {s5 : Shared} (I : Inv X pins σ H s) (ok : BlkOk X.N X.env.scope scope own) (hN : X.N.Nodup)
    (hcell : ∀ y ∈ scope.names, y.2 ≠ .cell) (hfp : ∀ b ∈ fp, FpOk X pins H b ∧ b < s.heap.objs.size) (hA : A'.handled = none) (hAf : A'.frames = some (genEnv scope (cloFrom X.env.cells scope.names []) C code builtinsNs X.env :: X.stack)) (hC : C = s.heap.objs.size)
    (h5o : s5.os = s.os) (h5b : AllBare s5.gens) (h5n : s5.heap.Ns C m0) (h5k : ∀ b o, s.heap.get? b = some o → s5.heap.get? b = some o) (h5g : s5.heap.get? ag = some og) (hag : C < ag) (hog : ∀ v, og.data ≠ .cell v) :
    Inv (GCx X s H (genEnv scope (cloFrom X.env.cells scope.names []) C code builtinsNs X.env) fp A') [(ag, og)] (wipe σ (own.map (·.2))) H s5 := by
  have hfree : ∀ y ∈ scope.names, y.2 = .free → ∃ c, X.env.cells.lookup y.1 = some c := fun y hy e => by
    rcases ok.free y hy e with k | k
    · exact I.ok.has _ (.inl k)
    · exact I.ok.has _ (.inr k)
  subst hC
  generalize hcenv : genEnv scope (cloFrom X.env.cells scope.names []) s.heap.objs.size code builtinsNs X.env = cenv at *
  have hL : cenv.locals = s.heap.objs.size := by rw [← hcenv]; rfl
  have hcl : cenv.cells = cloFrom X.env.cells scope.names [] := by rw [← hcenv]; rfl
  have hsc : cenv.scope = scope := by rw [← hcenv]; rfl
  have mem : ∀ {y c}, cenv.cells.lookup y = some c → X.env.cells.lookup y = some c ∧ c < s.heap.objs.size ∧ scope.names.lookup y = some .free := fun {y c} e => by
    rw [hcl] at e
    rcases cloFrom_mem (PySem.mem_of_lookup e) with hm | ⟨h1, rfl⟩
    · cases hm
    · obtain ⟨c, hc⟩ := hfree _ h1 rfl
      rw [hc]
      obtain ⟨w, z⟩ := I.cell _ _ hc
      exact ⟨rfl, z.lt, ok.uniq _ h1⟩
  have look : ∀ {y}, scope.names.lookup y = some .free → ∃ c, cenv.cells.lookup y = some c ∧ X.env.cells.lookup y = some c := fun {y} hl => by
    have hy : (y, NameKind.free) ∈ scope.names := PySem.mem_of_lookup hl
    obtain ⟨c', e'⟩ := mem_lookup (cloFrom_has (cells := X.env.cells) (acc := []) hy)
    rw [← hcl] at e'
    exact ⟨c', e', (mem e').1⟩
  have nocell : ∀ {y}, scope.names.lookup y ≠ some .cell := fun {y} e => hcell _ (PySem.mem_of_lookup e) rfl
  have okB : (GCx X s H cenv fp A').Ok := by
    refine ⟨I.ok.mod, by show cenv.scope.kind = _; rw [hsc]; exact ok.kind, by show cenv.globals = _; rw [← hcenv]; exact I.ok.glob, by show cenv.builtins = _; rw [← hcenv]; rfl, by show s.heap.objs.size ≤ cenv.locals; rw [hL]; exact Nat.le_refl _,
      fun y z c e1 e2 => I.ok.inj y z c (mem e1).1 (mem e2).1, fun y hy => ?_, fun y c z e => (Bool.false_ne_true z).elim, fun _ => hA, hAf, .inr ⟨rfl, by show cenv.frame = some cenv.locals; rw [← hcenv]; rfl⟩, fun b hb => ⟨?_, fun y c e z => (hfp b hb).1.2.2.2.2.1 y c (mem e).1 z⟩, I.bs, Nat.le_trans I.ok.bsz I.sz, fun b o e hb => ?_, fun b hb z => ?_, I.stack, I.stkFree⟩
    · have hy : scope.names.lookup y = some .cell ∨ scope.names.lookup y = some .free := by
        have hy' : cenv.scope.names.lookup y = some .cell ∨ cenv.scope.names.lookup y = some .free := hy
        rw [hsc] at hy'
        exact hy'
      rcases hy with e | e
      · exact (nocell e).elim
      · obtain ⟨c, h1, _⟩ := look e
        exact ⟨c, h1⟩
    · show b ≠ cenv.locals
      rw [hL]; exact Nat.ne_of_lt (hfp b hb).2
    · rcases (hfp b hb).1.2.2.2.1 with z | z
      · exact I.ok.noex b o e z
      · exact absurd (Nat.lt_of_lt_of_le (Heap.lt_size e) (Nat.le_trans I.ok.bsz z)) (Nat.lt_irrefl _)
    · rcases List.mem_cons.mp (I.stkSub b z) with z | z
      · exact (hfp b hb).1.2.1 z
      · exact (hfp b hb).1.2.2.1 z
  refine ⟨okB, h5o, h5b, Un.kept h5k, ⟨m0, by show s5.heap.Ns cenv.locals m0; rw [hL]; exact h5n, fun i y av e1 e2 e3 => ?_⟩, fun y c e => ?_, by show H cenv.locals = none; rw [hL]; exact I.hok.fresh (Nat.le_refl _), fun y c e => I.freeC y c (mem e).1, fun p hp => ?_, I.hok.kept h5k, by rw [wipe_length]; exact I.len⟩
  · obtain ⟨e2, hne⟩ := wipe_some e2
    have no : ∀ k, scope.names.lookup y = some k → ¬ (k = .local ∨ k = .cell) := fun k e hh => by
      rcases ok.own _ (PySem.mem_of_lookup e) hh with e' | e'
      · obtain ⟨p, hp, hpy⟩ := List.mem_map.mp e'
        have e3 := ok.ix p hp
        have : p.1 = y := hpy
        rw [this] at e3
        exact hne (List.mem_map.mpr ⟨p, hp, nodup_ix hN e3 e1⟩)
      · exact e' (List.mem_of_getElem? e1)
    have e3' : Vis scope y := by
      have e3' : Vis cenv.scope y := e3
      rw [hsc] at e3'
      exact e3'
    have hfr : scope.names.lookup y = some .free := by
      rcases e3' with e | e | e
      · exact (no _ e (.inl rfl)).elim
      · exact (no _ e (.inr rfl)).elim
      · exact e
    obtain ⟨m, hn, hl⟩ := I.loc
    have hvis : Vis X.env.scope y := (ok.free _ (PySem.mem_of_lookup hfr) rfl).elim (fun k => .inr (.inl k)) (fun k => .inr (.inr k))
    obtain ⟨w, r, q⟩ := hl i y av e1 e2 hvis
    refine ⟨w, r, .inr ⟨.inr (by show cenv.scope.names.lookup y = _; rw [hsc]; exact hfr), ?_⟩⟩
    obtain ⟨c, h1, h2⟩ := look hfr
    rcases q with ⟨k, _⟩ | ⟨_, c', e', z⟩
    · have k : X.env.scope.names.lookup y = some .local := k
      rcases ok.free _ (PySem.mem_of_lookup hfr) rfl with k' | k' <;> rw [show X.env.scope.names.lookup y = _ from k'] at k <;> cases k
    · rw [h2] at e'; cases e'
      exact ⟨c, h1, z.keeps h5k⟩
  · obtain ⟨w, z⟩ := I.cell y c (mem e).1
    exact ⟨w, z.keeps h5k⟩
  · have hp' : p = (ag, og) := by simpa using hp
    subst hp'
    refine ⟨h5g, I.hok.fresh (Nat.le_of_lt hag), by show ag ≠ cenv.locals; rw [hL]; exact Nat.ne_of_gt hag, fun z => ?_, hog⟩
    obtain ⟨_, o, ho, _⟩ := I.stack.mem z
    exact absurd (Nat.lt_trans (Heap.lt_size ho) hag) (Nat.lt_irrefl _)
/-- any (isAll = false), all (isAll = true) of [te for g in wi] -/
def tGx (K : PySem.W.Frag) (P : Addr) (isAll : Bool) (wi : TI) (g : TG) (te : TE) (vs : List Nat) : TE := fun σ H Q => wi σ H fun J H1 => TabG H1 P ∧ ∀ H1', Tabbed P H1 H1' → ∃ W : Nat → Nat → Hp → Prop, (∃ m, W 0 m H1') ∧ ∀ i m H, W i m H →
  (J.stop i H ∧ Q (.bl isAll) H) ∨ (J.go i H ∧ ∃ Nx : Hp → Prop, (∀ H', Nx H' → ∃ m', m' < m ∧ W (i + 1) m' H') ∧ ∀ x H', J.yld i H x H' → g x (wipe σ vs) H' fun σ2 H2 => wipe σ2 vs = wipe σ vs ∧ te σ2 H2 fun y H3 =>
    ∃ b, y = .bl b ∧ if b = isAll then Nx H3 else Q (.bl b) H3)
/-- what the generator promises to the one who wakes it -/
def GR (X' : Cx) (pn : List (Addr × Obj)) (Qe : Hp → Prop) : GenEnd := fun _ _ r s₁ => r = .ok .next ∧ ∃ H4 σ4, Inv X' pn σ4 H4 s₁ ∧ Qe H4
def GY (X' : Cx) (pn : List (Addr × Obj)) (isAll : Bool) (Qx : Hp → Prop) : Protocol := fun _ _ v s kap => ∃ H4 σ4 b, v = .bool b ∧ Inv X' pn σ4 H4 s ∧
  if b = isAll then (∀ s'' : Shared, s''.heap = s.heap → s''.os = s.os → AllBare s''.gens → kap (.send .none) s'') else Qx H4
/-- a generator at ag, its state g -/
structure GSt (X' : Cx) (pn : List (Addr × Obj)) (isAll : Bool) (Qe Qx : Hp → Prop) (A0 : Around) (ag : Addr) (g n : Nat) (s : Shared) : Prop where
  isg : s.heap.IsGen ag g
  lim : s.heap.NoLimit
  bare : AllBare s.gens
  go : ∃ gs, s.gens[g]? = some gs ∧ gs.Goes (model X'.prog X'.w) A0 (GR X' pn Qe) (GY X' pn isAll Qx) n (.send .none) (s.setGen g .running)
theorem get_set {s : Shared} {g : Nat} {x : GenState} (h : g < s.gens.size) : (s.setGen g x).gens[g]? = some x := by
  show (s.gens.setIfInBounds g x)[g]? = some x
  rw [Array.getElem?_setIfInBounds, if_pos rfl, if_pos h]
/-- one turn of the consumer -/
theorem turn_gen {X' : Cx} {pn : List (Addr × Obj)} {isAll : Bool} {Qe Qx : Hp → Prop} {A : Around} {ag : Addr} {g n : Nat} {s : Shared} {E : Value → Shared → Prop} {Q : Option Value → Shared → Prop} (hh : A.handled = none) (hroom : A.depth < recursionLimit) (hpn : ∀ σ H s, Inv X' pn σ H s → s.heap.IsGen ag g)
    (S : GSt X' pn isAll Qe Qx A.in1 ag g n s) (h1 : ∀ s', (∃ H4 σ4, Inv X' pn σ4 H4 s' ∧ Qe H4) → Q none s')
    (h2 : ∀ s' b, (if b = isAll then (∃ m, m < n ∧ GSt X' pn isAll Qe Qx A.in1 ag g m s') else ∃ H4 σ4, Inv X' pn σ4 H4 s' ∧ Qx H4) → Q (some (.bool b)) s') : wpAny (model X'.prog X'.w) A (pyNext (.ref ag)) Q E s := by
  obtain ⟨gs, hgs, hgo⟩ := S.go
  have hlt : g < s.gens.size := (Array.getElem?_eq_some_iff.mp hgs).1
  refine GenW.wpAny_gsz (n := g + 1) hlt ?_
  refine wpAny_pyNext_genexpQ (P := fun _ _ s₁ => ∃ H4 σ4, Inv X' pn σ4 H4 s₁ ∧ Qe H4) hh S.lim hroom S.isg hgs hgo (fun v s₁ gs' hb hv hsz => ?_) (fun s₁ hp h' hk hsz => ?_)
  · obtain ⟨H4, σ4, b, rfl, I4, q4⟩ := hv
    have hsz' : g < s₁.gens.size := by
      have e : (s₁.setGen g gs').gens.size = s₁.gens.size := GenW.setGen_size ..
      omega
    refine h2 _ b ?_
    by_cases hb2 : b = isAll
    · rw [if_pos hb2] at q4 ⊢
      have bs : AllBare (s₁.setGen g gs').gens := bare_set I4.bare hb
      have q5 := q4 ((s₁.setGen g gs').setGen g .running) rfl rfl (bare_set bs rfl)
      cases n with
      | zero => exact q5.elim
      | succ m =>
        refine ⟨m, Nat.lt_succ_self m, ⟨hpn _ _ _ (gens_irrel I4 rfl rfl bs), I4.nolimit, bs, gs', get_set hsz', q5⟩⟩
    · rw [if_neg hb2] at q4 ⊢
      exact ⟨H4, σ4, gens_irrel I4 rfl rfl (bare_set I4.bare hb), q4⟩
  · obtain ⟨H4, σ4, I4, q4⟩ := hp
    exact h1 _ ⟨H4, σ4, gens_irrel (s := { s₁ with heap := h' }) (I4.kept (t' := s₁.toks) hk) rfl rfl (bare_set I4.bare rfl), q4⟩
theorem any_loop {X' : Cx} {pn : List (Addr × Obj)} {Qe Qx : Hp → Prop} {A : Around} {ag : Addr} {g : Nat} {R : Result → Shared → Prop} (hh : A.handled = none) (hroom : A.depth < recursionLimit) (hpn : ∀ σ H s, Inv X' pn σ H s → s.heap.IsGen ag g)
    (h1 : ∀ s', (∃ H4 σ4, Inv X' pn σ4 H4 s' ∧ Qe H4) → R (.ok (.ret (.bool false))) s') (h2 : ∀ s', (∃ H4 σ4, Inv X' pn σ4 H4 s' ∧ Qx H4) → R (.ok (.ret (.bool true))) s') : ∀ (n : Nat) (s : Shared),
    GSt X' pn false Qe Qx A.in1.in1 ag g n s → codeAny (model X'.prog X'.w) A (.builtin "any.loop" ⟨[.ref ag], []⟩) R s := by
  intro n
  induction n using Nat.strongRecOn with
  | ind n ih =>
    intro s S
    refine codeAny_builtin F.entry_any_loop ?_
    rw [Around.under_plainId F.plain_any_loop _]
    show wpAny _ A.in1 (pyNext (.ref ag) >>= _) _ _ s
    refine wpAny_bind (turn_gen (A := A.in1) hh hroom hpn S (fun s' q => ?_) fun s' b q => ?_)
    · exact wpAny_bind (wpAny_rule (wpAny_pure (h1 s' q)))
    · refine wpAny_bind (wpAny_holding (wpAny_truthy_bool ?_))
      refine wpAny_bind (wpAny_letGo ?_)
      cases b with
      | false =>
        simp only [Bool.false_eq_true, if_false]
        rw [if_pos rfl] at q
        obtain ⟨m, hm, S'⟩ := q
        exact wpAny_pure ⟨plainId_quiet F.plain_any_loop _, ih m hm s' S'⟩
      | true =>
        simp only [if_true]
        rw [if_neg (by decide)] at q
        exact wpAny_bind (wpAny_rule (wpAny_pure (h2 s' q)))
theorem all_loop {X' : Cx} {pn : List (Addr × Obj)} {Qe Qx : Hp → Prop} {A : Around} {ag : Addr} {g : Nat} {R : Result → Shared → Prop} (hh : A.handled = none) (hroom : A.depth < recursionLimit) (hpn : ∀ σ H s, Inv X' pn σ H s → s.heap.IsGen ag g)
    (h1 : ∀ s', (∃ H4 σ4, Inv X' pn σ4 H4 s' ∧ Qe H4) → R (.ok (.ret (.bool true))) s') (h2 : ∀ s', (∃ H4 σ4, Inv X' pn σ4 H4 s' ∧ Qx H4) → R (.ok (.ret (.bool false))) s') : ∀ (n : Nat) (s : Shared),
    GSt X' pn true Qe Qx A.in1.in1 ag g n s → codeAny (model X'.prog X'.w) A (.builtin "all.loop" ⟨[.ref ag], []⟩) R s := by
  intro n
  induction n using Nat.strongRecOn with
  | ind n ih =>
    intro s S
    refine codeAny_builtin F.entry_all_loop ?_
    rw [Around.under_plainId F.plain_all_loop _]
    show wpAny _ A.in1 (pyNext (.ref ag) >>= _) _ _ s
    refine wpAny_bind (turn_gen (A := A.in1) hh hroom hpn S (fun s' q => ?_) fun s' b q => ?_)
    · exact wpAny_bind (wpAny_rule (wpAny_pure (h1 s' q)))
    · refine wpAny_bind (wpAny_holding (wpAny_truthy_bool ?_))
      refine wpAny_bind (wpAny_letGo ?_)
      cases b with
      | true =>
        simp only [if_true]
        rw [if_pos rfl] at q
        obtain ⟨m, hm, S'⟩ := q
        exact wpAny_pure ⟨plainId_quiet F.plain_all_loop _, ih m hm s' S'⟩
      | false =>
        simp only [Bool.false_eq_true, if_false]
        rw [if_neg (by decide)] at q
        exact wpAny_bind (wpAny_rule (wpAny_pure (h2 s' q)))
end
end RG

set_option maxRecDepth 100000
set_option maxHeartbeats 4000000
namespace RG
open PySem PySem.Spec PyProof.Rows L2 GxR
section
variable {X : Cx} {pins : List (Addr × Obj)} {σ : L2.St} {H : Hp} {s : Shared}
theorem ne_not {a b : Bool} (h : ¬ a = b) : a = !b := by
  cases a <;> cases b <;> simp_all
/-- the turns of a generator expression -/
theorem seg_turns {X' : Cx} {elt tg iter : Expr} {scope : Scope} {gpos : Pos} {it ag : Addr} {og : Obj} {fp : List Addr} {tn : Nat → Heap → Prop} {J : It} {vs : List Nat} {g : TG} {te : TE} {isAll : Bool} {Q : VK} {A0 : Around} {W : Nat → Nat → Hp → Prop}
    (hA : X'.A = A0.over (.compLoop (.GeneratorExp elt [⟨tg, iter, [], 0⟩] scope gpos) 0 (.ref it) .none X'.env) []) (hc : X'.calm = true) (hpn : X'.pn = []) (hex : X'.ex = fp) (hxe : X'.xe = fun _ _ => False) (hco : X'.env.scope.isCoroutine = false)
    (T : Turn X'.prog X'.w X'.K tg J fp it tn) (hg : PG X' tg g) (he : PE X' elt te) (hag : ∀ b ∈ fp, ag ≠ b)
    (turn : ∀ i m H, W i m H → (J.stop i H ∧ Q (.bl isAll) H) ∨ (J.go i H ∧ ∃ Nx : Hp → Prop, (∀ H', Nx H' → ∃ m', m' < m ∧ W (i + 1) m' H') ∧ ∀ x H', J.yld i H x H' → g x (wipe σ vs) H' fun σ2 H2 => wipe σ2 vs = wipe σ vs ∧ te σ2 H2 fun y H3 =>
      ∃ b, y = .bl b ∧ if b = isAll then Nx H3 else Q (.bl b) H3)) : ∀ (m n i : Nat) (s₀ s : Shared) (H' : Hp), m < n → Inv X' [(ag, og)] (wipe σ vs) H' s → tn i s.heap → (∀ b ∈ fp, H' b = none) → W i m H' →
      Seg (model X'.prog X'.w) A0 (GR X' [(ag, og)] (Q (.bl isAll))) (GY X' [(ag, og)] isAll (Q (.bl (!isAll)))) n s₀ (.compLoop (.GeneratorExp elt [⟨tg, iter, [], 0⟩] scope gpos) 0 (.ref it) .none X'.env)
        ((model X'.prog X'.w).den (.compLoop (.GeneratorExp elt [⟨tg, iter, [], 0⟩] scope gpos) 0 (.ref it) .none X'.env)) [] s := by
  have stat : ∀ {σ' : L2.St} {H' : Hp} {s' : Shared}, Inv X' [(ag, og)] σ' H' s' → (∀ b ∈ fp, H' b = none) → ∀ b ∈ fp, FpOk X' [(ag, og)] H' b := fun {σ' H' s'} I' hn b hb =>
    ⟨hn b hb, (I'.ok.exf b (by rw [hex]; exact hb)).1, I'.ok.exfs b (by rw [hex]; exact hb), .inl (by rw [hex]; exact hb), fun x c e => (I'.ok.exf b (by rw [hex]; exact hb)).2 x c e, fun p hp => by
      rw [hpn] at hp
      have e : p = (ag, og) := by simpa using hp
      rw [e]
      exact hag b hb⟩
  intro m
  induction m using Nat.strongRecOn with
  | ind m ih =>
    intro n i s₀ s H' hmn I5 st5 n5 w5
    obtain ⟨n, rfl⟩ : ∃ k, n = k + 1 := ⟨n - 1, by omega⟩
    show Seg _ A0 _ _ _ s₀ _ ((compTurn (.GeneratorExp elt [⟨tg, iter, [], 0⟩] scope gpos) 0 (.ref it) .none X'.env).onRaise (leaving X'.env)) [] s
    rw [compTurn_gen, Sem.onRaise_eq_wrap]
    refine seg_bind_wrap (wpAny_standAt ?_)
    rcases turn i m H' w5 with ⟨stop, qq⟩ | ⟨go, Nx, hNx, step⟩
    · have td := T.done X' rfl rfl rfl hc i [(ag, og)] s _ H' (fun _ _ => False) I5 (stat I5 n5) st5 stop
      rw [hA] at td
      refine seg_bind_wrap (thnF td fun r s6 ⟨hr, I6⟩ => ?_)
      subst hr
      exact seg_end (.ok .next) ⟨rfl, H', _, I6, qq⟩
    · have ti := T.item X' rfl rfl rfl hc i [(ag, og)] s _ H' (fun _ _ => False) I5 (stat I5 n5) st5 go
      rw [hA] at ti
      refine seg_bind_wrap (thnF ti fun r s6 ⟨u, hr, h6⟩ => ?_)
      subst hr
      refine seg_bind_wrap (thnF h6 fun _ s7 ⟨x, H7, I7, r7, y7, st7, n7⟩ => ?_)
      have I7' := I7.pinned (stat I7 n7) (T.obj _ _ st7)
      have pg := hg.run _ s7 _ H7 x u _ I7' r7 (step x H7 y7)
      rw [hxe, hA] at pg
      refine seg_bind_wrap (thnF pg fun _ s8 ⟨σ8, H8, I8, hw8, q8⟩ => ?_)
      refine seg_bind_wrap (wpAny_tests_nil ?_)
      simp only [if_true]
      have hy : ∀ v, yieldOut X'.env v = yieldValue v := fun v => by simp only [yieldOut, hco, Bool.false_eq_true, if_false]
      simp only [hy]
      rw [Sem.bind_eq_wrap', Sem.bind_eq_wrap', Sem.wrap_wrap, Sem.wrap_wrap]
      have pe := he.run _ s8 σ8 H8 _ I8 q8
      rw [hxe, hA] at pe
      refine seg_wrap (thnF pe fun z s10 ⟨yv, H10, I10, r10, b, eb, q10⟩ => ?_)
      subst eb
      have rz : z = .bool b := r10
      subst rz
      refine seg_at (seg_yield rfl rfl rfl ⟨H10, σ8, b, rfl, I10.unpinned, ?_⟩)
      by_cases hb : b = isAll
      · rw [if_pos hb] at q10 ⊢
        intro s'' eh eo bs
        obtain ⟨m', hm, w'⟩ := hNx H10 q10
        have pin' : ∀ b ∈ fp, ∀ o, s7.heap.get? b = some o → s10.heap.get? b = some o ∧ H10 b = none := fun b hb o e =>
          let z := I10.pin (b, o) (List.mem_append_right _ (List.mem_append_right _ (mem_pinsAt hb e)))
          ⟨z.1, z.2.1⟩
        have hl : (wipe σ vs).length = σ8.length := by rw [← hw8, wipe_length]
        have I11 : Inv X' [(ag, og)] (wipe σ vs) H10 s'' := gens_irrel ((I10.unpinned (pins := [(ag, og)])).weak hl fun j v e => by
          rw [← hw8] at e
          exact (wipe_some e).1) eh eo bs
        refine seg_again rfl (ih m' hm n (i + 1) s'' s'' H10 (by omega) I11 (T.keep _ _ _ st7 fun b hb o e => by rw [eh]; exact (pin' b hb o e).1) (fun b hb => ?_) w')
        obtain ⟨o, e, _⟩ := T.obj _ _ st7 b hb
        exact (pin' b hb o e).2
      · rw [if_neg hb] at q10 ⊢
        have e : b = !isAll := ne_not hb
        rw [← e]
        exact q10
/-- its beginning -/
theorem seg_begin {X' : Cx} {elt tg iter : Expr} {scope : Scope} {gpos : Pos} {it : Addr} {fp : List Addr} {tn : Nat → Heap → Prop} {J : It} {A0 : Around} {R : GenEnd} {Y : Protocol} {n i : Nat} {s₀ s : Shared} {cenv : Env}
    (T : Turn X'.prog X'.w X'.K tg J fp it tn) (st : tn i s.heap) (loop : Seg (model X'.prog X'.w) A0 R Y n s₀ (.compLoop (.GeneratorExp elt [⟨tg, iter, [], 0⟩] scope gpos) 0 (.ref it) .none cenv) ((model X'.prog X'.w).den (.compLoop (.GeneratorExp elt [⟨tg, iter, [], 0⟩] scope gpos) 0 (.ref it) .none cenv)) [] s) :
    Seg (model X'.prog X'.w) A0 R Y n s₀ (.compStart (.GeneratorExp elt [⟨tg, iter, [], 0⟩] scope gpos) 0 (.ref it) .none cenv) ((model X'.prog X'.w).den (.compStart (.GeneratorExp elt [⟨tg, iter, [], 0⟩] scope gpos) 0 (.ref it) .none cenv)) [] s := by
  show Seg _ A0 _ _ _ s₀ _ ((compStart (.GeneratorExp elt [⟨tg, iter, [], 0⟩] scope gpos) 0 (.ref it) .none cenv).onRaise (leaving cenv)) [] s
  unfold compStart
  rw [Sem.onRaise_eq_wrap]
  show Seg _ A0 _ _ _ s₀ _ ((ask >>= _).wrap _ _ _ _) [] s
  refine seg_bind_wrap (wpAny_askSetting ?_)
  split
  · exact seg_again rfl loop
  · first
      | exact seg_bind_wrap (wpAny_rule (seg_bind_wrap (wpAny_standAt (seg_bind_wrap (T.self _ i s _ _ st (seg_again rfl loop))))))
      | (refine seg_bind_wrap (wpAny_rule ?_); show Seg _ A0 _ _ _ s₀ _ ((standAt iter.pos >>= _).wrap _ _ _ _) [] s; exact seg_bind_wrap (wpAny_standAt (seg_bind_wrap (T.self _ i s _ _ st (seg_again rfl loop)))))

/-- the around of a generator expression's frame that any, all wake -/
abbrev GA (A : Around) (elt tg iter : Expr) (scope : Scope) (gpos : Pos) (it : Addr) (cenv : Env) : Around := A.in1.in1.over (.compLoop (.GeneratorExp elt [⟨tg, iter, [], 0⟩] scope gpos) 0 (.ref it) .none cenv) []
/-- the room that is asked of it -/
structure GAo (A A' : Around) : Prop where
  hd : A'.handled = none
  dp : A'.depth ≤ A.depth + 1
  un : A'.units ≤ A.units + 8
  gd : A'.guards = A.guards
theorem gao {A : Around} {elt tg iter : Expr} {scope : Scope} {gpos : Pos} {it : Addr} {cenv : Env} (hh : A.handled = none) : GAo A (GA A elt tg iter scope gpos it cenv) := ⟨hh, Nat.le_of_eq rfl, by show A.units + 1 + 1 + 0 + 3 ≤ _; omega, rfl⟩
theorem gaf {A : Around} {elt tg iter : Expr} {scope : Scope} {gpos : Pos} {it : Addr} {cenv : Env} {l : List Env} (h : A.frames = some l) : (GA A elt tg iter scope gpos it cenv).frames = some (cenv :: l) := by
  show pushEnvs [cenv] (pushEnvs [] A.frames) = _
  rw [h]
  rfl
theorem gx_make {P c : Addr} {elt tg iter : Expr} {scope : Scope} {gpos : Pos} {own : List (Str × Nat)} {wi : TI} {g : TG} {te : TE} {isAll : Bool} {Q : VK} {Qf : Value → Shared → Prop} (hh : X.A.handled = none) (hroom : X.A.depth < recursionLimit)
    (hc : X.calm = true) (hN : X.N.Nodup) (TB : TabB X.base X.mg c P) (hcode : X.env.code = .ref c) (hi : PI X tg iter wi) (ok : BlkOk X.N X.env.scope scope own) (hco : scope.isCoroutine = false) (hcell : ∀ y ∈ scope.names, y.2 ≠ .cell) (hdot : scope.names.lookup (".0" : Str) = some NameKind.local)
    (hg : ∀ (s : Shared) (H : Hp) (C : Addr) (code : Value) (cl : List (Str × Addr)) (fp : List Addr) (A' : Around), GAo X.A A' → PG (GCx X s H (genEnv scope cl C code builtinsNs X.env) fp A') tg g)
    (he : ∀ (s : Shared) (H : Hp) (C : Addr) (code : Value) (cl : List (Str × Addr)) (fp : List Addr) (A' : Around), GAo X.A A' → PE (GCx X s H (genEnv scope cl C code builtinsNs X.env) fp A') elt te)
    (hs : ∀ v, genFold iter X.env v = pure v) (I : Inv X pins σ H s) (h : tGx X.K P isAll wi g te (own.map (·.2)) σ H Q)
    (hQ : ∀ (X' : Cx) (ag gn : Nat) (pn : List (Addr × Obj)) (n : Nat) (s5 : Shared), X'.prog = X.prog → X'.w = X.w → (∀ σ H s, Inv X' pn σ H s → s.heap.IsGen ag gn) → (∀ σ' H' s', Inv X' pn σ' H' s' → Inv X pins σ H' s') →
      GSt X' pn isAll (Q (.bl isAll)) (Q (.bl (!isAll))) X.A.in1.in1 ag gn n s5 → Qf (.ref ag) s5) :
    wpAny (model X.prog X.w) X.A (eval (.GeneratorExp elt [⟨tg, iter, [], 0⟩] scope gpos) X.env) Qf X.xe s := by
  have hfree : ∀ y ∈ scope.names, y.2 = .free → ∃ c, X.env.cells.lookup y.1 = some c := fun y hy e => by
    rcases ok.free y hy e with k | k
    · exact I.ok.has _ (.inl k)
    · exact I.ok.has _ (.inr k)
  refine wpAny_GeneratorExp_make hco (closure_ok hfree) hcell hdot ok.kind hroom ?_ hs
  refine thn (hi.run pins s σ H _ I h) fun xv s1 hx => thn hx fun itv s2 h2 => ?_
  obtain ⟨it, fp, tn, J, H2, e, I2, T, st2, f2, ⟨ps, hP, ht⟩, q⟩ := h2
  subst e
  refine ⟨I2.nolimit, ?_⟩
  have hPs : s2.heap.get? P = some { cls := .none, data := .fields ps } := I2.hok P _ hP
  have cd : PySem.W.CodeHd s2.heap c P := TB.code.keeps fun b u e => I2.bk b u e
  have fpP : ∀ b ∈ fp, b ≠ P := fun b hb z => by
    have := (f2 b hb).1
    rw [z, hP] at this
    cases this
  have cont : ∀ (code : Value) (h3 : Heap) (tk : Nat) (ps' : Array Value), Heap.ExtBut P s2.heap h3 → s2.heap.objs.size ≤ h3.objs.size → h3.get? P = some { cls := .none, data := .fields ps' } → (∃ more, ps' = ps ++ more) → TriplesOk ps'.toList →
      wpAny (model X.prog X.w) X.A (builtinsFor X.env.globals X.env.builtins) (fun bi s₄ =>
        ∀ h', h'.Ns s₄.heap.objs.size (fun y => if y = ".0" then some (.ref it) else none) → Heap.SameBut s₄.heap.objs.size (s₄.heap.push { cls := .type "frame", data := .dict #[] }) h' →
          Qf (.ref h'.objs.size) { s₄ with
            gens := s₄.gens.push (.fresh (.compStart (.GeneratorExp elt [⟨tg, iter, [], 0⟩] scope gpos) 0 (.ref it) .none (genEnv scope (cloFrom X.env.cells scope.names []) s₄.heap.objs.size code bi X.env))),
            toks := s₄.toks + 1 + 1 + 1,
            heap := h'.push { cls := .type "generator", data := .fields #[.int s₄.gens.size 0, .str "<genexpr>" (s₄.toks + 1), .str (X.env.qual ++ "<genexpr>") (s₄.toks + 1 + 1)] } }) X.xe { s2 with heap := h3, toks := tk } := by
    intro code h3 tk ps' hx3 hsz hP3 hmore ht3
    obtain ⟨bm, ob, e1, e2, e3, e4, e5, e6, e7, e8⟩ := TB.bm
    obtain ⟨more, em⟩ := hmore
    have keep3 : ∀ b u, b ≠ P → s2.heap.get? b = some u → h3.get? b = some u := fun b u hb e => hx3 b u hb e
    refine wpAny_builtinsFor (m := X.mg) (by rw [I2.ok.glob]; exact ((I2.mod.glob.keeps I2.bk)).extBut hx3 TB.gP) e1 e2 (keep3 _ _ e4 (I2.bk _ _ e5)) e6 e7 e8 ?_
    have I3 : Inv X pins σ (upd H2 P (.tbl (ps ++ more))) { s2 with heap := h3, toks := tk } := inv_tab (more := more) (h' := h3) (g' := s2.gens) (d' := s2.drawn) (t' := tk) I2 hP (fun b u hb e => keep3 b u hb e) (by rw [← em]; exact hP3) I2.bare
    generalize hs3 : ({ s2 with heap := h3, toks := tk } : Shared) = s3 at I3 ⊢
    have e3h : s3.heap = h3 := by rw [← hs3]
    have e3g : s3.gens = s2.gens := by rw [← hs3]
    intro h' hn' hsb
    obtain ⟨W, ⟨m0, w0⟩, turn⟩ := q (upd H2 P (.tbl (ps ++ more))) ⟨⟨ps ++ more, upd_same, by rw [← em]; exact ht3⟩, fun b hb => upd_ne hb⟩
    generalize hH3 : upd H2 P (.tbl (ps ++ more)) = H3 at I3 w0
    have szh : h'.objs.size = s3.heap.objs.size + 1 := by rw [hsb.1, Heap.size_push]
    have kp' : ∀ b o, s3.heap.get? b = some o → h'.get? b = some o := fun b o e => hsb.extBut b o (Nat.ne_of_lt (Heap.lt_size e)) (Heap.get?_push_of_some _ e)
    have kp5 : ∀ b o, s3.heap.get? b = some o → (h'.push { cls := .type "generator", data := .fields #[.int s3.gens.size 0, .str "<genexpr>" (s3.toks + 1), .str (X.env.qual ++ "<genexpr>") (s3.toks + 1 + 1)] }).get? b = some o := fun b o e => Heap.get?_push_of_some _ (kp' b o e)
    generalize hog : ({ cls := .type "generator", data := .fields #[.int s3.gens.size 0, .str "<genexpr>" (s3.toks + 1), .str (X.env.qual ++ "<genexpr>") (s3.toks + 1 + 1)] } : Obj) = og at kp5 ⊢
    have gog : (h'.push og).get? h'.objs.size = some og := Heap.get?_push_size _ (by rw [← hog]; rfl)
    have isg : ∀ hh : Heap, hh.get? h'.objs.size = some og → hh.IsGen h'.objs.size s3.gens.size := fun hh e => ⟨og, _, _, e, by rw [← hog], by rw [← hog], by rw [← hog]⟩
    have f3 : ∀ b ∈ fp, FpOk X pins H3 b ∧ b < s3.heap.objs.size := fun b hb => by
      have hb2 := fpP b hb
      obtain ⟨o, eo, _⟩ := T.obj _ _ st2 b hb
      refine ⟨⟨?_, (f2 b hb).2⟩, ?_⟩
      · rw [← hH3, upd_ne hb2]
        exact (f2 b hb).1
      · rw [e3h]
        exact Nat.lt_of_lt_of_le (Heap.lt_size eo) hsz
    have st3 : tn 0 s3.heap := T.keep _ _ _ st2 fun b hb o e => by
      rw [e3h]
      exact keep3 b o (fpP b hb) e
    generalize hce : genEnv scope (cloFrom X.env.cells scope.names []) s3.heap.objs.size code builtinsNs X.env = cenv
    have cL : cenv.locals = s3.heap.objs.size := by subst hce; rfl
    have hA' := gao (A := X.A) (elt := elt) (tg := tg) (iter := iter) (scope := scope) (gpos := gpos) (it := it) (cenv := cenv) hh
    have hAf := gaf (A := X.A) (elt := elt) (tg := tg) (iter := iter) (scope := scope) (gpos := gpos) (it := it) (cenv := cenv) I.ok.frames
    have pg := hg s3 H3 s3.heap.objs.size code (cloFrom X.env.cells scope.names []) fp _ hA'
    have pe := he s3 H3 s3.heap.objs.size code (cloFrom X.env.cells scope.names []) fp _ hA'
    rw [hce] at pg pe
    have hag : s3.heap.objs.size < h'.objs.size := by rw [szh]; exact Nat.lt_succ_self _
    have start : ∀ s5 : Shared, s5.heap = h'.push og → s5.os = s3.os → AllBare s5.gens → Inv (GCx X s3 H3 cenv fp (GA X.A elt tg iter scope gpos it cenv)) [(h'.objs.size, og)] (wipe σ (own.map (·.2))) H3 s5 := fun s5 eh eo eb => by
      have z := gen_start (own := own) (fp := fp) (C := s3.heap.objs.size) (ag := h'.objs.size) (og := og) (code := code) (A' := GA X.A elt tg iter scope gpos it cenv) (s5 := s5) (m0 := fun y => if y = ".0" then some (.ref it) else none) I3 ok hN hcell f3 hA'.hd (by rw [hce]; exact hAf) rfl eo eb (by rw [eh]; exact hn'.push _) (by rw [eh]; exact kp5) (by rw [eh]; exact gog) hag (by rw [← hog]; intro v z; cases z)
      rw [hce] at z
      exact z
    have bs5 : AllBare (s3.gens.push (.fresh (.compStart (.GeneratorExp elt [⟨tg, iter, [], 0⟩] scope gpos) 0 (.ref it) .none cenv))) := I3.bare.push rfl
    have T' : Turn (GCx X s3 H3 cenv fp (GA X.A elt tg iter scope gpos it cenv)).prog (GCx X s3 H3 cenv fp (GA X.A elt tg iter scope gpos it cenv)).w (GCx X s3 H3 cenv fp (GA X.A elt tg iter scope gpos it cenv)).K tg J fp it tn := T
    have hx := hQ (GCx X s3 H3 cenv fp (GA X.A elt tg iter scope gpos it cenv)) h'.objs.size s3.gens.size [(h'.objs.size, og)] (m0 + 1) { s3 with
            gens := s3.gens.push (.fresh (.compStart (.GeneratorExp elt [⟨tg, iter, [], 0⟩] scope gpos) 0 (.ref it) .none cenv)),
            toks := s3.toks + 1 + 1 + 1,
            heap := h'.push og } rfl rfl (fun σ H s I' => isg _ (I'.pin (h'.objs.size, og) (by simp)).1) (fun σ' H' s' I' => ?_) ⟨isg _ gog, (start { s3 with gens := s3.gens.push (.fresh (.compStart (.GeneratorExp elt [⟨tg, iter, [], 0⟩] scope gpos) 0 (.ref it) .none cenv)), toks := s3.toks + 1 + 1 + 1, heap := h'.push og } rfl rfl bs5).nolimit, bs5, _, Array.getElem?_push_size .., rfl, ?_⟩
    · exact hx
    · exact I3.call' (ch := fp) I'.os I'.base I'.hok I'.bare fun b hb => ⟨(f3 b hb).1.2.2.2.1, (f3 b hb).1.2.1, (f3 b hb).1.2.2.2.2.1, (f3 b hb).1.2.2.2.2.2⟩
    · have hag' : ∀ b ∈ fp, h'.objs.size ≠ b := fun b hb z => absurd (Nat.lt_trans (f3 b hb).2 hag) (by rw [z]; exact Nat.lt_irrefl _)
      have st5 : tn 0 (h'.push og) := T.keep _ _ _ st3 fun b hb o e => kp5 b o e
      have n5 : ∀ b ∈ fp, H3 b = none := fun b hb => (f3 b hb).1.1
      refine seg_begin (X' := GCx X s3 H3 cenv fp (GA X.A elt tg iter scope gpos it cenv)) T' (i := 0) st5 ?_
      exact seg_turns (X' := GCx X s3 H3 cenv fp (GA X.A elt tg iter scope gpos it cenv)) (σ := σ) (vs := own.map (·.2)) rfl hc rfl rfl rfl (by show cenv.scope.isCoroutine = false; rw [← hce]; exact hco) T' pg pe hag' turn m0 (m0 + 1) 0 _ _ H3 (Nat.lt_succ_self _) (start _ rfl rfl (bare_set (s := { s3 with gens := s3.gens.push (.fresh (.compStart (.GeneratorExp elt [⟨tg, iter, [], 0⟩] scope gpos) 0 (.ref it) .none cenv)), toks := s3.toks + 1 + 1 + 1, heap := h'.push og }) bs5 rfl)) st5 n5 w0
  cases hf : codeAmong gpos ps.toList with
  | none =>
    refine wpAny_genexprCodeX hcode (cd.code hPs ht) (cd.tab hPs) hf fun c' h' tk hx hge hlt hco' _ htab' _ => ?_
    obtain ⟨o1, vs, f1, tf, fl, tg', inF, tx, tt, op, _, _, _, _, _, _, _, _, _, htr, _⟩ := hco'
    exact cont _ h' tk _ hx (Nat.le_trans hge (Nat.le_of_lt hlt)) htab'.2 ⟨_, rfl⟩ htr
  | some cv =>
    refine wpAny_genexprCode_hit hcode (cd.code hPs ht) hf ?_
    exact cont cv s2.heap s2.toks ps (Heap.ExtBut.refl _ _) (Nat.le_refl _) hPs ⟨#[], by simp⟩ ht

/-- any(te for g in wi) -/
theorem pe_any {P c : Addr} {elt tg iter : Expr} {scope : Scope} {p pos gpos : Pos} {own : List (Str × Nat)} {wi : TI} {g : TG} {te : TE} (hh : X.A.handled = none) (hroom : X.A.depth < recursionLimit)
    (hgl : Gl X "any") (hm : X.mg "any" = none) (hc : X.calm = true) (hN : X.N.Nodup) (TB : TabB X.base X.mg c P) (hcode : X.env.code = .ref c) (hi : PI X tg iter wi) (ok : BlkOk X.N X.env.scope scope own) (hco : scope.isCoroutine = false) (hcell : ∀ y ∈ scope.names, y.2 ≠ .cell) (hdot : scope.names.lookup (".0" : Str) = some NameKind.local)
    (hg : ∀ (s : Shared) (H : Hp) (C : Addr) (code : Value) (cl : List (Str × Addr)) (fp : List Addr) (A' : Around), GAo X.A A' → PG (GCx X s H (genEnv scope cl C code builtinsNs X.env) fp A') tg g)
    (he : ∀ (s : Shared) (H : Hp) (C : Addr) (code : Value) (cl : List (Str × Addr)) (fp : List Addr) (A' : Around), GAo X.A A' → PE (GCx X s H (genEnv scope cl C code builtinsNs X.env) fp A') elt te)
    (hs : ∀ v, genFold iter X.env v = pure v)
    (hse : starEach [.GeneratorExp elt [⟨tg, iter, [], 0⟩] scope gpos] X.env = (false, eval (.GeneratorExp elt [⟨tg, iter, [], 0⟩] scope gpos) X.env) :: starEach [] X.env := by rfl) :
    PE X (.Call (.Name "any" p) [.GeneratorExp elt [⟨tg, iter, [], 0⟩] scope gpos] [] pos) (tGx X.K P false wi g te (own.map (·.2))) := by
  refine ⟨fun pins s σ H Q I h => ?_⟩
  refine wpAny_Call_Name_kw (ld_blt I hgl hm boot_any ?_)
  refine PyProof.Rows.callWith_builtin1 ?_ hse (by rfl)
  rw [hse]
  show wpAny _ _ (spliced ((false, eval (.GeneratorExp elt [⟨tg, iter, [], 0⟩] scope gpos) X.env) :: backTo pos (starEach [] X.env))) _ _ s
  refine Calls.spliced_cons (gx_make (isAll := false) (Q := Q) hh hroom hc hN TB hcode hi ok hco hcell hdot hg he hs I h fun X' ag gn pn n s5 e1 e2 hpn hback S => ?_)
  refine Calls.spliced_nil ?_
  refine call_function_tree F.kind_any F.plain_any F.entry_any (F.args_any1 _) ?_
  unfold Builtin.«any»
  refine wpAny_bind (m := oneArg "any" _) (wpAny_pure ?_)
  refine wpAny_bind (wpAny_pyIter_gen S.isg ?_)
  refine wpAny_pure ⟨plainId_quiet F.plain_any_loop _, ?_⟩
  have hl := any_loop (X' := X') (pn := pn) (Qe := Q (.bl false)) (Qx := Q (.bl true)) (A := X.A) (R := fun r s' => ∃ b, r = .ok (.ret (.bool b)) ∧ EP X pins σ Q (.bool b) s') hh hroom hpn
    (fun s' ⟨H4, σ4, I4, q4⟩ => ⟨false, rfl, .bl false, H4, hback _ _ _ I4, rfl, q4⟩) (fun s' ⟨H4, σ4, I4, q4⟩ => ⟨true, rfl, .bl true, H4, hback _ _ _ I4, rfl, q4⟩) n s5 S
  rw [e1, e2] at hl
  exact codeAny_mono hl fun r s' ⟨b, er, q⟩ => by
    subst er
    exact q
theorem boot_all : bootBuiltins "all" = some (.builtin "all") := by decide +kernel
theorem pe_all {P c : Addr} {elt tg iter : Expr} {scope : Scope} {p pos gpos : Pos} {own : List (Str × Nat)} {wi : TI} {g : TG} {te : TE} (hh : X.A.handled = none) (hroom : X.A.depth < recursionLimit)
    (hgl : Gl X "all") (hm : X.mg "all" = none) (hc : X.calm = true) (hN : X.N.Nodup) (TB : TabB X.base X.mg c P) (hcode : X.env.code = .ref c) (hi : PI X tg iter wi) (ok : BlkOk X.N X.env.scope scope own) (hco : scope.isCoroutine = false) (hcell : ∀ y ∈ scope.names, y.2 ≠ .cell) (hdot : scope.names.lookup (".0" : Str) = some NameKind.local)
    (hg : ∀ (s : Shared) (H : Hp) (C : Addr) (code : Value) (cl : List (Str × Addr)) (fp : List Addr) (A' : Around), GAo X.A A' → PG (GCx X s H (genEnv scope cl C code builtinsNs X.env) fp A') tg g)
    (he : ∀ (s : Shared) (H : Hp) (C : Addr) (code : Value) (cl : List (Str × Addr)) (fp : List Addr) (A' : Around), GAo X.A A' → PE (GCx X s H (genEnv scope cl C code builtinsNs X.env) fp A') elt te)
    (hs : ∀ v, genFold iter X.env v = pure v)
    (hse : starEach [.GeneratorExp elt [⟨tg, iter, [], 0⟩] scope gpos] X.env = (false, eval (.GeneratorExp elt [⟨tg, iter, [], 0⟩] scope gpos) X.env) :: starEach [] X.env := by rfl) :
    PE X (.Call (.Name "all" p) [.GeneratorExp elt [⟨tg, iter, [], 0⟩] scope gpos] [] pos) (tGx X.K P true wi g te (own.map (·.2))) := by
  refine ⟨fun pins s σ H Q I h => ?_⟩
  refine wpAny_Call_Name_kw (ld_blt I hgl hm boot_all ?_)
  refine PyProof.Rows.callWith_builtin1 ?_ hse (by rfl)
  rw [hse]
  show wpAny _ _ (spliced ((false, eval (.GeneratorExp elt [⟨tg, iter, [], 0⟩] scope gpos) X.env) :: backTo pos (starEach [] X.env))) _ _ s
  refine Calls.spliced_cons (gx_make (isAll := true) (Q := Q) hh hroom hc hN TB hcode hi ok hco hcell hdot hg he hs I h fun X' ag gn pn n s5 e1 e2 hpn hback S => ?_)
  refine Calls.spliced_nil ?_
  refine call_function_tree F.kind_all F.plain_all F.entry_all (F.args_all1 _) ?_
  unfold Builtin.«all»
  refine wpAny_bind (m := oneArg "all" _) (wpAny_pure ?_)
  refine wpAny_bind (wpAny_pyIter_gen S.isg ?_)
  refine wpAny_pure ⟨plainId_quiet F.plain_all_loop _, ?_⟩
  have hl := all_loop (X' := X') (pn := pn) (Qe := Q (.bl true)) (Qx := Q (.bl false)) (A := X.A) (R := fun r s' => ∃ b, r = .ok (.ret (.bool b)) ∧ EP X pins σ Q (.bool b) s') hh hroom hpn
    (fun s' ⟨H4, σ4, I4, q4⟩ => ⟨true, rfl, .bl true, H4, hback _ _ _ I4, rfl, q4⟩) (fun s' ⟨H4, σ4, I4, q4⟩ => ⟨false, rfl, .bl false, H4, hback _ _ _ I4, rfl, q4⟩) n s5 S
  rw [e1, e2] at hl
  exact codeAny_mono hl fun r s' ⟨b, er, q⟩ => by
    subst er
    exact q
end
end RG

set_option maxRecDepth 100000
set_option maxHeartbeats 4000000
/-! zip of a tuple and a list. -/
namespace RG
open PySem PySem.Spec PyProof.Rows L2
/-- the tuple at a, the list at b, in pairs -/
def ItzM (K : PySem.W.Frag) (a b : Addr) : It where
  go := fun i H => ∃ (xs ys : List V) (x y : V), SqT K H a xs ∧ SqL K H b ys ∧ xs[i]? = some x ∧ ys[i]? = some y
  yld := fun i H v H' => ∃ T x y, v = .ref T ∧ H T = none ∧ H' = upd H T (.tup [x, y]) ∧ (∀ xs, SqT K H a xs → xs[i]? = some x) ∧ ∀ ys, SqL K H b ys → ys[i]? = some y
  stop := fun i H => ∃ xs ys : List V, SqT K H a xs ∧ SqL K H b ys ∧ i ≤ xs.length ∧ i ≤ ys.length ∧ (i = xs.length ∨ i = ys.length)
def zmSt (z TI TO i1 i2 a b : Addr) (i : Nat) (h : Heap) : Prop := IsZip h z TI TO .none ∧ IsTupOf2 h TI (.ref i1) (.ref i2) ∧ (∃ x y, IsTupOf2 h TO x y) ∧ h.IsTupleIter i1 a i ∧ h.IsListIter i2 b i
theorem turn_zipM {P : Program} {w : World} {K : PySem.W.Frag} {elts : List Expr} {kk : Nat} {tpos : Pos} {a b z TI TO i1 i2 : Addr} (D : ZipSep2 z TI TO i1 i2 [i1, a] [i2, b]) (ha : a ≠ i1) (hb : b ≠ i2) :
    Turn P w K (.Tuple elts kk tpos) (ItzM K a b) [z, TI, TO, i1, i2] z (zmSt z TI TO i1 i2 a b) where
  mem := List.mem_cons_self
  obj := fun i h st c hc => by
    obtain ⟨hz, hTI, ⟨x, y, hTO⟩, ⟨o1, e1, _, d1⟩, ⟨o2, e2, _, d2⟩⟩ := st
    simp only [List.mem_cons, List.not_mem_nil, or_false] at hc
    rcases hc with q | q | q | q | q <;> subst q
    · exact ⟨_, hz, fun v q => nomatch q⟩
    · exact ⟨_, hTI, fun v q => nomatch q⟩
    · exact ⟨_, hTO, fun v q => nomatch q⟩
    · exact ⟨o1, e1, fun v q => by rw [d1] at q; cases q⟩
    · exact ⟨o2, e2, fun v q => by rw [d2] at q; cases q⟩
  keep := fun i h h' st k => by
    obtain ⟨hz, hTI, ⟨x, y, hTO⟩, h1, h2⟩ := st
    exact ⟨k z (by simp) _ hz, k TI (by simp) _ hTI, ⟨x, y, k TO (by simp) _ hTO⟩, h1.at fun o q => k i1 (by simp) o q, h2.at fun o q => k i2 (by simp) o q⟩
  item := by
    intro X hP hw hK hc i pins s σ H E I hf st hg
    subst hP hw hK
    obtain ⟨hz, hTI, ⟨x0, y0, hTO⟩, h1, h2⟩ := st
    obtain ⟨xs, ys, x, y, hqx, hqy, hx, hy⟩ := hg
    obtain ⟨its, rv, p, _⟩ := I.tuple hqx
    obtain ⟨its2, rv2, p2, _⟩ := I.list hqy
    obtain ⟨u, hu, ru⟩ := rv.get hx
    obtain ⟨u2, hu2, ru2⟩ := rv2.get hy
    have hzl : z < s.heap.objs.size := Heap.lt_size hz
    have hh : X.A.in1.handled = none := I.ok.hd hc
    have n1 : i < its.toArray.size := by
      have := (List.getElem?_eq_some_iff.mp hu).1
      simpa using this
    have n2 : i < its2.toArray.size := by
      have := (List.getElem?_eq_some_iff.mp hu2).1
      simpa using this
    refine wpAny_pyNext_zipD2_item D (.tuple hh i1 a ha its.toArray) (.list hh i2 b hb its2.toArray) hz hTI hTO ⟨h1, p⟩ ⟨h2, p2.isList⟩ n1 n2 fun v1 v2 h' tk y1 y2 z' TO' h1' h2' hT hsz hk => ?_
    have e1 : v1 = u := by
      have := y1.symm.trans (show its.toArray[i]? = some u by simpa using hu)
      exact Option.some.inj this
    have e2 : v2 = u2 := by
      have := y2.symm.trans (show its2.toArray[i]? = some u2 by simpa using hu2)
      exact Option.some.inj this
    subst e1 e2
    refine ⟨_, rfl, wpAny_letOwnedTupleGo_zip (s := { s with heap := h', toks := tk }) z' fun h'' z'' sb => ?_⟩
    have hT2 : h''.get? s.heap.objs.size = some { cls := .type "tuple", data := .seq #[v1, v2] } := (sb.2 _ (Nat.ne_of_gt hzl)).trans hT
    have new : ObjOk X.prog X.w (upd H s.heap.objs.size (.tup [x, y])) h'' s.heap.objs.size (.tup [x, y]) :=
      ⟨by show 2 ≤ sizeLine; decide, [v1, v2], .cons ru (.cons ru2 .nil), ⟨_, hT2, rfl, _, rfl⟩⟩
    have I1 : Inv X pins σ (upd H s.heap.objs.size (.tup [x, y])) { s with heap := h'', toks := tk } :=
      I.turnedNew (t' := tk) (ch := [z, TI, TO, i1, i2]) (fun c o hb q => by
        simp only [List.mem_cons, List.not_mem_nil, or_false, not_or] at hb
        exact (sb.2 c hb.1).trans (hk c o hb.1 hb.2.2.1 hb.2.2.2.1 hb.2.2.2.2 q)) hf (Nat.le_refl _) new
    refine ⟨.ref s.heap.objs.size, _, I1, rfl, ⟨_, x, y, rfl, I.hok.fresh (Nat.le_refl _), rfl, fun l hl => by rw [I.tuple_inj hl hqx]; exact hx, fun l hl => by rw [I.list_inj hl hqy]; exact hy⟩, ⟨z'', ?_, ⟨v1, v2, ?_⟩, ?_, ?_⟩, fun c hcm => ?_⟩
    · exact (sb.2 _ D.TIz).trans (hk _ _ D.TIz D.TITO D.TIi1 D.TIi2 hTI)
    · exact (sb.2 _ D.TOz).trans TO'
    · exact h1'.1.at fun o q => (sb.2 _ D.zi1.symm).trans q
    · exact h2'.1.at fun o q => (sb.2 _ D.zi2.symm).trans q
    · have hlt : c < s.heap.objs.size := by
        simp only [List.mem_cons, List.not_mem_nil, or_false] at hcm
        rcases hcm with q | q | q | q | q <;> subst q
        · exact hzl
        · exact Heap.lt_size hTI
        · exact Heap.lt_size hTO
        · obtain ⟨_, e1, _⟩ := h1; exact Heap.lt_size e1
        · obtain ⟨_, e2, _⟩ := h2; exact Heap.lt_size e2
      rw [upd_ne (Nat.ne_of_lt hlt)]
      exact (hf c hcm).1
  done := by
    intro X hP hw hK hc i pins s σ H E I hf st hg
    subst hP hw hK
    obtain ⟨hz, hTI, ⟨x0, y0, hTO⟩, h1, h2⟩ := st
    obtain ⟨xs, ys, hqx, hqy, le1, le2, hend⟩ := hg
    obtain ⟨its, rv, p, _⟩ := I.tuple hqx
    obtain ⟨its2, rv2, p2, _⟩ := I.list hqy
    have l1 := rv.length
    have l2 := rv2.length
    have hh : X.A.in1.handled = none := I.ok.hd hc
    refine wpAny_pyNext_zipD2_end D (.tuple hh i1 a ha its.toArray) (.list hh i2 b hb its2.toArray) hz hTI hTO ⟨h1, p⟩ ⟨h2, p2.isList⟩ (by simp; omega) (by simp; omega) (by simp; omega) fun h' tk hk => ⟨rfl, I.turnedL (t' := tk) (ch := [z, TI, TO, i1, i2]) (fun c o hb q => by
      simp only [List.mem_cons, List.not_mem_nil, or_false, not_or] at hb
      exact hk c o hb.1 hb.2.2.1 hb.2.2.2.1 hb.2.2.2.2 q) hf⟩
  self := fun A i s Q E st h => wpAny_pyIter_zip st.1 h
def iZipM (K : PySem.W.Frag) (ta : TA) : TI := fun σ H R => ta σ H fun vs H1 => ∃ a b xs ys, vs = [.ref a, .ref b] ∧ SqT K H1 a xs ∧ SqL K H1 b ys ∧ R (ItzM K a b) H1
theorem pi_zipM {X : Cx} {e e2 : Expr} {ta : TA} {p pos tpos : Pos} {elts : List Expr} {kk : Nat} (hg : Gl X "zip") (hm : X.mg "zip" = none) (ha : PA X [e, e2] ta)
    (hs : starEach [e, e2] X.env = (false, eval e X.env) :: starEach [e2] X.env := by rfl) (hpl : (backTo pos (starEach [e2] X.env)).any (·.1) = false := by rfl) :
    PI X (.Tuple elts kk tpos) (.Call (.Name "zip" p) [e, e2] [] pos) (iZipM X.K ta) := by
  refine ⟨fun pins s σ H R I h => ?_⟩
  refine Call_ (ld_blt I hg hm PyProof.Rows.boot_zip (PyProof.Rows.callWith_type1 (thn (ha.run pos pins s σ H _ I h) fun us s1 ⟨vs, H1, I1, r1, q1⟩ => ?_) hs hpl))
  obtain ⟨a, b, xs, ys, ex, hqx, hqy, q⟩ := q1
  subst ex
  obtain ⟨u1, u2, rfl, r, r'⟩ : ∃ u1 u2, us = [u1, u2] ∧ RelV (.ref a) u1 ∧ RelV (.ref b) u2 := by
    cases r1 with
    | cons r rr =>
      cases rr with
      | cons r' rr =>
        cases rr
        exact ⟨_, _, rfl, r, r'⟩
  cases r
  cases r'
  obtain ⟨its, rv, p1, _⟩ := I1.tuple hqx
  obtain ⟨its2, rv2, p2, _⟩ := I1.list hqy
  obtain ⟨o1, ho1, _⟩ := id p1
  have la : a < s1.heap.objs.size := Heap.lt_size ho1
  have lb : b < s1.heap.objs.size := p2.lt
  refine zip_begins2 (begins_tuple a its.toArray) (begins_list b its2.toArray) p1 p2.isList fun h' hz hTI hTO g1 g2 hsz hk => wpAny_pyIter_zip hz ?_
  have I2 : Inv X pins σ H1 { s1 with heap := h' } := I1.kept (t' := s1.toks) hk
  have S := zip_sep2 (N := s1.heap.objs.size) (fp1 := [a]) (fp2 := [b]) (fun c hc => by rw [List.mem_singleton.mp hc]; exact la) (fun c hc => by rw [List.mem_singleton.mp hc]; exact lb)
  refine ⟨s1.heap.objs.size + 4, [s1.heap.objs.size + 4, s1.heap.objs.size + 2, s1.heap.objs.size + 3, s1.heap.objs.size, s1.heap.objs.size + 1], _, _, H1, rfl, I2, turn_zipM S (Nat.ne_of_lt la) (Nat.ne_of_lt (Nat.lt_succ_of_lt lb)), ⟨hz, hTI, ⟨_, _, hTO⟩, ⟨_, g1, rfl, rfl⟩, ⟨_, g2, rfl, rfl⟩⟩, fun c hcm => ?_, q⟩
  have hle : s1.heap.objs.size ≤ c := by
    simp only [List.mem_cons, List.not_mem_nil, or_false] at hcm
    rcases hcm with z | z | z | z | z <;> subst z <;> first | exact Nat.le_add_right _ _ | exact Nat.le_refl _
  exact I1.fpOk hle (I1.hok.fresh hle)
end RG

set_option maxRecDepth 100000
set_option maxHeartbeats 4000000
/-! RT: plain data over the hand layer: what a value is (Dt), lists that a function owns (cells), and rules that speak of these alone. -/
namespace RT
open PySem PySem.Spec PyProof.Rows L2

inductive Dt where
  | non | bl (b : Bool) | int (i : Int) | str (s : Str) | tup (ds : List Dt) | lst (ds : List Dt)

mutual
def Rep (K : PySem.W.Frag) (F : Hp) : Dt → V → Prop
  | .non, v => v = .non
  | .bl b, v => v = .bl b
  | .int i, v => v = .int i
  | .str s, v => v = .str s
  | .tup ds, v => ∃ a vs, v = .ref a ∧ SqT K F a vs ∧ Reps K F ds vs
  | .lst ds, v => ∃ a vs, v = .ref a ∧ Rd F a (.lst vs) ∧ Reps K F ds vs
def Reps (K : PySem.W.Frag) (F : Hp) : List Dt → List V → Prop
  | [], vs => vs = []
  | d :: ds, vs => ∃ v r, vs = v :: r ∧ Rep K F d v ∧ Reps K F ds r
end

theorem seqT_mono {K : PySem.W.Frag} {H H' : Hp} {a : Addr} {xs : List V} (e : Same H H') (h : SqT K H a xs) : SqT K H' a xs := by
  rcases h with (h | ⟨o, h⟩) | h
  · exact .inl (.inl (e _ _ h))
  · exact .inl (.inr ⟨o, e _ _ h⟩)
  · exact .inr h
theorem rd_mono {H H' : Hp} {a : Addr} {u : HO} (e : Same H H') (h : Rd H a u) : Rd H' a u := by
  rcases h with h | ⟨o, h⟩
  · exact .inl (e _ _ h)
  · exact .inr ⟨o, e _ _ h⟩
section
variable {K : PySem.W.Frag} {F F' : Hp}
mutual
theorem Rep.mono (e : Same F F') : ∀ {d : Dt} {v : V}, Rep K F d v → Rep K F' d v
  | .non, _, h => by simpa only [Rep] using h
  | .bl _, _, h => by simpa only [Rep] using h
  | .int _, _, h => by simpa only [Rep] using h
  | .str _, _, h => by simpa only [Rep] using h
  | .tup ds, v, h => by
    simp only [Rep] at h ⊢
    obtain ⟨a, vs, e1, s, r⟩ := h
    exact ⟨a, vs, e1, seqT_mono e s, Reps.mono e r⟩
  | .lst ds, v, h => by
    simp only [Rep] at h ⊢
    obtain ⟨a, vs, e1, s, r⟩ := h
    exact ⟨a, vs, e1, rd_mono e s, Reps.mono e r⟩
theorem Reps.mono (e : Same F F') : ∀ {ds : List Dt} {vs : List V}, Reps K F ds vs → Reps K F' ds vs
  | [], _, h => by simpa only [Reps] using h
  | d :: ds, vs, h => by
    simp only [Reps] at h ⊢
    obtain ⟨v, r, e1, h1, h2⟩ := h
    exact ⟨v, r, e1, Rep.mono e h1, Reps.mono e h2⟩
end
theorem Reps.nil : Reps K F [] [] := by simp only [Reps]
theorem Reps.cons {d : Dt} {v : V} {ds : List Dt} {vs : List V} (h : Rep K F d v) (t : Reps K F ds vs) : Reps K F (d :: ds) (v :: vs) := by
  simp only [Reps]
  exact ⟨v, vs, rfl, h, t⟩
theorem Reps.length : ∀ {ds : List Dt} {vs : List V}, Reps K F ds vs → ds.length = vs.length
  | [], vs, h => by
    simp only [Reps] at h
    rw [h]
    rfl
  | d :: ds, vs, h => by
    simp only [Reps] at h
    obtain ⟨v, r, rfl, _, h2⟩ := h
    rw [List.length_cons, List.length_cons, Reps.length h2]
theorem Reps.append : ∀ {ds es : List Dt} {vs us : List V}, Reps K F ds vs → Reps K F es us → Reps K F (ds ++ es) (vs ++ us)
  | [], es, vs, us, h, h' => by
    simp only [Reps] at h
    rw [h]
    exact h'
  | d :: ds, es, vs, us, h, h' => by
    simp only [Reps] at h
    obtain ⟨v, r, rfl, h1, h2⟩ := h
    exact .cons h1 (Reps.append h2 h')
theorem Reps.get : ∀ {ds : List Dt} {vs : List V} {i : Nat} {d : Dt}, Reps K F ds vs → ds[i]? = some d → ∃ v, vs[i]? = some v ∧ Rep K F d v
  | [], _, _, _, _, e => by simp at e
  | d :: ds, vs, 0, d', h, e => by
    simp only [Reps] at h
    obtain ⟨v, r, rfl, h1, h2⟩ := h
    cases e
    exact ⟨v, rfl, h1⟩
  | d :: ds, vs, i + 1, d', h, e => by
    simp only [Reps] at h
    obtain ⟨v, r, rfl, h1, h2⟩ := h
    exact Reps.get (i := i) h2 e
theorem Reps.take : ∀ {ds : List Dt} {vs : List V} (n : Nat), Reps K F ds vs → Reps K F (ds.take n) (vs.take n)
  | _, _, 0, _ => by
    rw [List.take_zero, List.take_zero]
    exact .nil
  | [], vs, n + 1, h => by
    simp only [Reps] at h
    rw [h]
    exact .nil
  | d :: ds, vs, n + 1, h => by
    simp only [Reps] at h
    obtain ⟨v, r, rfl, h1, h2⟩ := h
    exact .cons h1 (Reps.take n h2)
theorem Reps.drop : ∀ {ds : List Dt} {vs : List V} (n : Nat), Reps K F ds vs → Reps K F (ds.drop n) (vs.drop n)
  | _, _, 0, h => h
  | [], vs, n + 1, h => by
    simp only [Reps] at h
    rw [h]
    exact .nil
  | d :: ds, vs, n + 1, h => by
    simp only [Reps] at h
    obtain ⟨v, r, rfl, h1, h2⟩ := h
    exact Reps.drop n h2
theorem Reps.set {x : Dt} {u : V} (hx : Rep K F x u) : ∀ {ds : List Dt} {vs : List V} (n : Nat), Reps K F ds vs → Reps K F (ds.set n x) (vs.set n u)
  | [], vs, n, h => by
    simp only [Reps] at h
    rw [h]
    exact .nil
  | d :: ds, vs, 0, h => by
    simp only [Reps] at h
    obtain ⟨v, r, rfl, h1, h2⟩ := h
    exact .cons hx h2
  | d :: ds, vs, n + 1, h => by
    simp only [Reps] at h
    obtain ⟨v, r, rfl, h1, h2⟩ := h
    exact .cons h1 (Reps.set hx n h2)
end

/-! ### values, cells, states -/
inductive Vl where
  | d (x : Dt) | c (k : Nat)
inductive Cell where
  | lst (xs : List Dt) | dead
structure M where
  sl : List (Option Vl)
  st : List Cell
def RepV (K : PySem.W.Frag) (F : Hp) (A : List Addr) : Vl → V → Prop
  | .d x, v => Rep K F x v
  | .c k, v => ∃ a, A[k]? = some a ∧ v = .ref a
theorem RepV.mono {K : PySem.W.Frag} {F F' : Hp} {A A' : List Addr} (e : Same F F') (p : A <+: A') : ∀ {x : Vl} {v : V}, RepV K F A x v → RepV K F' A' x v
  | .d x, v, h => Rep.mono e h
  | .c k, v, h => by
    obtain ⟨a, h1, h2⟩ := h
    obtain ⟨t, rfl⟩ := p
    obtain ⟨hk, _⟩ := List.getElem?_eq_some_iff.mp h1
    exact ⟨a, by rw [List.getElem?_append_left hk]; exact h1, h2⟩

/-- the defs that hold generator expressions -/
def gdefs : List (Str × Option Str) := [("triple_weights", none), ("is_certificate", none), ("contains_ray", none), ("is_empty", none), ("is_bounded", none), ("natural_of", none), ("fraction_of", none), ("parse_train", none)]
/-- a def's code object and its table -/
def tabK (K : PySem.W.Frag) (p : Str × Option Str) : Option (Addr × Addr) := match K.lookup (He.fAd K p) with
  | some ⟨_, _, .func fd, _⟩ => (match fd.code with
    | .ref c => (match K.lookup c with
      | some ⟨_, _, .fields vs, _⟩ => (match vs.getD 11 .none with
        | .ref P => some (c, P)
        | _ => none)
      | _ => none)
    | _ => none)
  | _ => none
def tabsK (K : PySem.W.Frag) : List (Addr × Addr) := gdefs.filterMap (tabK K)
theorem tab_upd {H : Hp} {P p : Addr} {o : HO} (t : GxR.TabG H P) (n : H p = none) : GxR.TabG (upd H p o) P := by
  obtain ⟨ps, h, ok⟩ := t
  exact ⟨ps, by rw [upd_ne (ne_of_none h n)]; exact h, ok⟩
theorem tab_ne {H : Hp} {P a : Addr} {vs : List V} (t : GxR.TabG H P) (n : H a = some (.lst vs)) : P ≠ a := fun z => by
  obtain ⟨ps, h, ok⟩ := t
  rw [z, n] at h
  cases h
theorem tab_lst {H : Hp} {P a : Addr} {vs : List V} {o : HO} (t : GxR.TabG H P) (n : H a = some (.lst vs)) : GxR.TabG (upd H a o) P := by
  have ne := tab_ne t n
  obtain ⟨ps, h, ok⟩ := t
  exact ⟨ps, by rw [upd_ne ne]; exact h, ok⟩
theorem tab_some {H : Hp} {P p : Addr} (t : GxR.TabG H P) (n : H p = none) : P ≠ p := fun z => by
  obtain ⟨ps, h, ok⟩ := t
  rw [z, n] at h
  cases h
structure Good (K : PySem.W.Frag) (W F : Hp) (A : List Addr) (m : M) (σ : L2.St) (H : Hp) : Prop where
  ext : Same F H
  hid : Same W H
  dj : ∀ a o, W a = some o → F a = none
  slen : m.sl.length = σ.length
  sl : ∀ (i : Nat) (v : Vl), m.sl[i]? = some (some v) → ∃ u : V, σ[i]? = some (some u) ∧ RepV K F A v u
  len : A.length = m.st.length
  st : ∀ (k : Nat) (xs : List Dt), m.st[k]? = some (Cell.lst xs) → ∃ (a : Addr) (vs : List V), A[k]? = some a ∧ H a = some (.lst vs) ∧ Reps K F xs vs ∧ F a = none ∧ W a = none
  nd : ∀ (j k : Nat) (xs ys : List Dt) (a : Addr), m.st[j]? = some (.lst xs) → m.st[k]? = some (.lst ys) → A[j]? = some a → A[k]? = some a → j = k
  tb : ∀ q ∈ tabsK K, GxR.TabG H q.2 ∧ F q.2 = none ∧ W q.2 = none

abbrev DE := M → (Vl → M → Prop) → Prop
abbrev DA := M → (List Vl → M → Prop) → Prop
abbrev DT := M → (Bool → M → Prop) → Prop
structure DEnds where
  nx : M → Prop
  rt : Vl → M → Prop
  bk : M → Prop
  ct : M → Prop
abbrev DS := DEnds → M → Prop

/-- what follows at any grown state -/
def After (K : PySem.W.Frag) (W F : Hp) (A : List Addr) (σ : L2.St) {α : Type} (Q : α → M → Prop) (R : Hp → List Addr → α → Hp → Prop) : Prop :=
  ∀ F' A' x m' H', Same F F' → A <+: A' → Good K W F' A' m' σ H' → Q x m' → R F' A' x H'
def lift (K : PySem.W.Frag) (t : DE) : TE := fun σ H Q => ∃ W F A m Qd, Good K W F A m σ H ∧ t m Qd ∧
  After K W F A σ Qd fun F' A' v H' => ∀ u, RepV K F' A' v u → Q u H'
def liftT (K : PySem.W.Frag) (t : DT) : TT := fun σ H Q => ∃ W F A m Qd, Good K W F A m σ H ∧ t m Qd ∧
  After K W F A σ Qd fun _ _ b H' => Q b H'
def RepVs (K : PySem.W.Frag) (F : Hp) (A : List Addr) : List Vl → List V → Prop
  | [], us => us = []
  | v :: vs, us => ∃ u r, us = u :: r ∧ RepV K F A v u ∧ RepVs K F A vs r
theorem RepVs.mono {K : PySem.W.Frag} {F F' : Hp} {A A' : List Addr} (e : Same F F') (p : A <+: A') : ∀ {x : List Vl} {v : List V}, RepVs K F A x v → RepVs K F' A' x v
  | [], _, h => h
  | _ :: _, _, h => by
    obtain ⟨u, r, e1, h1, h2⟩ := h
    exact ⟨u, r, e1, RepV.mono e p h1, RepVs.mono e p h2⟩
theorem RepVs.length {K : PySem.W.Frag} {F : Hp} {A : List Addr} : ∀ {x : List Vl} {v : List V}, RepVs K F A x v → x.length = v.length
  | [], _, h => by
    have e := h
    simp only [RepVs] at e
    rw [e]
    rfl
  | _ :: _, _, h => by
    obtain ⟨u, r, rfl, h1, h2⟩ := h
    rw [List.length_cons, List.length_cons, RepVs.length h2]
def liftA (K : PySem.W.Frag) (t : DA) : TA := fun σ H Q => ∃ W F A m Qd, Good K W F A m σ H ∧ t m Qd ∧
  After K W F A σ Qd fun F' A' vs H' => ∀ us, RepVs K F' A' vs us → Q us H'
/-- what is wanted behind a statement, at any grown state -/
structure Conts (K : PySem.W.Frag) (W F : Hp) (A : List Addr) (E : DEnds) (D : Ends) : Prop where
  nx : ∀ F' A' m' σ' H', Same F F' → A <+: A' → Good K W F' A' m' σ' H' → E.nx m' → D.nx σ' H'
  rt : ∀ F' A' m' σ' H' v u, Same F F' → A <+: A' → Good K W F' A' m' σ' H' → RepV K F' A' v u → E.rt v m' → D.rt u H'
  bk : ∀ F' A' m' σ' H', Same F F' → A <+: A' → Good K W F' A' m' σ' H' → E.bk m' → D.bk σ' H'
  ct : ∀ F' A' m' σ' H', Same F F' → A <+: A' → Good K W F' A' m' σ' H' → E.ct m' → D.ct σ' H'
theorem Conts.mono {K : PySem.W.Frag} {W F F' : Hp} {A A' : List Addr} {E : DEnds} {D : Ends} (c : Conts K W F A E D) (s : Same F F') (p : A <+: A') : Conts K W F' A' E D :=
  ⟨fun F2 A2 m σ H s2 p2 => c.nx F2 A2 m σ H (s.trans s2) (p.trans p2), fun F2 A2 m σ H v u s2 p2 => c.rt F2 A2 m σ H v u (s.trans s2) (p.trans p2),
    fun F2 A2 m σ H s2 p2 => c.bk F2 A2 m σ H (s.trans s2) (p.trans p2), fun F2 A2 m σ H s2 p2 => c.ct F2 A2 m σ H (s.trans s2) (p.trans p2)⟩
def liftS (K : PySem.W.Frag) (t : DS) : TS := fun D σ H => ∃ W F A m E, Good K W F A m σ H ∧ t E m ∧ Conts K W F A E D

theorem _root_.L2.PE.imp {X : Cx} {e : Expr} {t t' : TE} (h : PE X e t) (f : ∀ σ H Q, t' σ H Q → t σ H Q) : PE X e t' := ⟨fun pins s σ H Q I q => h.run pins s σ H Q I (f _ _ _ q)⟩
theorem _root_.L2.PT.imp {X : Cx} {e : Expr} {t t' : TT} (h : PT X e t) (f : ∀ σ H Q, t' σ H Q → t σ H Q) : PT X e t' := ⟨fun pins s σ H Q I q => h.run pins s σ H Q I (f _ _ _ q)⟩
theorem _root_.L2.PW.imp {X : Cx} {e : Expr} {t t' : TT} (h : PW X e t) (f : ∀ σ H Q, t' σ H Q → t σ H Q) : PW X e t' := ⟨fun w pins s σ H Q I q => h.run w pins s σ H Q I (f _ _ _ q)⟩
theorem _root_.L2.PA.imp {X : Cx} {e : List Expr} {t t' : TA} (h : PA X e t) (f : ∀ σ H Q, t' σ H Q → t σ H Q) : PA X e t' := ⟨fun p pins s σ H Q I q => h.run p pins s σ H Q I (f _ _ _ q)⟩
theorem _root_.L2.PS.imp {X : Cx} {e : Stmt} {t t' : TS} (h : PS X e t) (f : ∀ D σ H, t' D σ H → t D σ H) : PS X e t' := ⟨fun pins s σ H D I q => h.run pins s σ H D I (f _ _ _ q)⟩
theorem _root_.L2.PSs.imp {X : Cx} {e : List Stmt} {t t' : TS} (h : PSs X e t) (f : ∀ D σ H, t' D σ H → t D σ H) : PSs X e t' := ⟨fun pins s σ H D I q => h.run pins s σ H D I (f _ _ _ q)⟩

/-- the judgements over plain data -/
abbrev JE (X : Cx) (e : Expr) (t : DE) : Prop := PE X e (lift X.K t)
abbrev JT (X : Cx) (e : Expr) (t : DT) : Prop := PT X e (liftT X.K t)
abbrev JW (X : Cx) (e : Expr) (t : DT) : Prop := PW X e (liftT X.K t)
abbrev JA (X : Cx) (e : List Expr) (t : DA) : Prop := PA X e (liftA X.K t)
abbrev JS (X : Cx) (e : Stmt) (t : DS) : Prop := PS X e (liftS X.K t)
abbrev JSs (X : Cx) (e : List Stmt) (t : DS) : Prop := PSs X e (liftS X.K t)

/-! ### states that change -/
section
variable {K : PySem.W.Frag} {W F F' : Hp} {A A' : List Addr} {m : M} {σ : L2.St} {H H' : Hp}
theorem pre_refl {α : Type} (l : List α) : l <+: l := ⟨[], List.append_nil l⟩
theorem pre_trans {α : Type} {a b c : List α} (h : a <+: b) (h' : b <+: c) : a <+: c := List.IsPrefix.trans h h'
theorem same_upd {p : Addr} {o : HO} (h : H p = none) : Same H (upd H p o) := fun b x e => by
  rw [upd_ne (ne_of_none e h)]
  exact e
theorem same_upd2 {p : Addr} {o : HO} (e : Same F H) : Same (upd F p o) (upd H p o) := fun b x q => by
  by_cases hb : b = p
  · subst hb
    rw [upd_same] at q ⊢
    exact q
  · rw [upd_ne hb] at q ⊢
    exact e _ _ q
/-- a new object that is plain data from the start -/
theorem Good.laid {p : Addr} {o : HO} (G : Good K W F A m σ H) (n : H p = none) : Good K W (upd F p o) A m σ (upd H p o) := by
  have nF : F p = none := G.ext.free n
  have s : Same F (upd F p o) := same_upd nF
  refine ⟨same_upd2 G.ext, G.hid.trans (same_upd n), fun b x e => by rw [upd_ne (ne_of_none (G.hid _ _ e) n)]; exact G.dj b x e, G.slen, fun i v e => ?_, G.len, fun k xs e => ?_, G.nd, fun q hq => ?_⟩
  · obtain ⟨u, h1, h2⟩ := G.sl i v e
    exact ⟨u, h1, RepV.mono s (pre_refl _) h2⟩
  · obtain ⟨a, vs, h1, h2, h3, h4, h5⟩ := G.st k xs e
    have ne : a ≠ p := ne_of_none h2 n
    exact ⟨a, vs, h1, by rw [upd_ne ne]; exact h2, Reps.mono s h3, by rw [upd_ne ne]; exact h4, h5⟩
  · obtain ⟨t1, t2, t3⟩ := G.tb q hq
    exact ⟨tab_upd t1 n, by rw [upd_ne (tab_some t1 n)]; exact t2, t3⟩
/-- a new list of one's own -/
theorem Good.own {p : Addr} {xs : List Dt} {vs : List V} (G : Good K W F A m σ H) (n : H p = none) (r : Reps K F xs vs) : Good K W F (A ++ [p]) ⟨m.sl, m.st ++ [.lst xs]⟩ σ (upd H p (.lst vs)) := by
  have pr : A <+: A ++ [p] := ⟨[p], rfl⟩
  have at_ : ∀ k, k < m.st.length → (A ++ [p])[k]? = A[k]? := fun k hk => List.getElem?_append_left (by rw [G.len]; exact hk)
  have lst_ : (A ++ [p])[m.st.length]? = some p := by rw [← G.len]; simp
  have old : ∀ k, k < m.st.length → (m.st ++ [Cell.lst xs])[k]? = m.st[k]? := fun k hk => List.getElem?_append_left hk
  have new : ∀ k c, ¬ k < m.st.length → (m.st ++ [Cell.lst xs])[k]? = some c → k = m.st.length ∧ c = .lst xs := fun k c hk e => by
    have hk2 := (List.getElem?_eq_some_iff.mp e).1
    rw [List.length_append, List.length_singleton] at hk2
    have ek : k = m.st.length := by omega
    subst ek
    rw [List.getElem?_append_right (Nat.le_refl _), Nat.sub_self] at e
    exact ⟨rfl, (Option.some.inj e).symm⟩
  refine ⟨G.ext.trans (same_upd n), G.hid.trans (same_upd n), G.dj, G.slen, fun i v e => ?_, by simp [G.len], fun k ys e => ?_, fun j k ys zs a e1 e2 h1 h2 => ?_, fun q hq => ⟨tab_upd (G.tb q hq).1 n, (G.tb q hq).2⟩⟩
  · obtain ⟨u, h1, h2⟩ := G.sl i v e
    exact ⟨u, h1, RepV.mono (Same.refl _) pr h2⟩
  · by_cases hk : k < m.st.length
    · have e' : m.st[k]? = some (.lst ys) := (old k hk).symm.trans e
      obtain ⟨a, ws, h1, h2, h3, h4⟩ := G.st k ys e'
      exact ⟨a, ws, (at_ k hk).trans h1, by rw [upd_ne (ne_of_none h2 n)]; exact h2, h3, h4⟩
    · obtain ⟨ek, ec⟩ := new k _ hk e
      subst ek
      cases ec
      exact ⟨p, vs, lst_, upd_same, r, G.ext.free n, G.hid.free n⟩
  · have nA : ∀ k zs, k < m.st.length → (m.st ++ [Cell.lst xs])[k]? = some (.lst zs) → (A ++ [p])[k]? = some p → False := fun k zs hk e h => by
      obtain ⟨a', _, q1, q2, _⟩ := G.st k zs ((old k hk).symm.trans e)
      rw [at_ k hk, q1] at h
      cases h
      rw [n] at q2
      cases q2
    by_cases hj : j < m.st.length
    · by_cases hk : k < m.st.length
      · exact G.nd j k ys zs a ((old j hj).symm.trans e1) ((old k hk).symm.trans e2) ((at_ j hj).symm.trans h1) ((at_ k hk).symm.trans h2)
      · obtain ⟨ek, _⟩ := new k _ hk e2
        subst ek
        rw [lst_] at h2
        cases h2
        exact (nA j ys hj e1 h1).elim
    · obtain ⟨ej, _⟩ := new j _ hj e1
      subst ej
      by_cases hk : k < m.st.length
      · rw [lst_] at h1
        cases h1
        exact (nA k zs hk e2 h2).elim
      · obtain ⟨ek, _⟩ := new k _ hk e2
        exact ek.symm
/-- a name is stored -/
theorem Good.store {i : Nat} {v : Vl} {u : V} (G : Good K W F A m σ H) (r : RepV K F A v u) : Good K W F A ⟨m.sl.set i (some v), m.st⟩ (σ.set i (some u)) H := by
  refine ⟨G.ext, G.hid, G.dj, by rw [List.length_set, List.length_set, G.slen], fun j w e => ?_, G.len, G.st, G.nd, G.tb⟩
  have e' : (m.sl.set i (some v))[j]? = some (some w) := e
  rw [List.getElem?_set] at e' ⊢
  by_cases hj : i = j
  · rw [if_pos hj] at e' ⊢
    by_cases hl : i < m.sl.length
    · rw [if_pos hl] at e'
      rw [if_pos (by rw [← G.slen]; exact hl)]
      cases e'
      exact ⟨u, rfl, r⟩
    · rw [if_neg hl] at e'
      cases e'
  · rw [if_neg hj] at e' ⊢
    exact G.sl j w e'
/-- a list of one's own is changed -/
theorem Good.write {k : Nat} {xs ys : List Dt} {a : Addr} {ws : List V} (G : Good K W F A m σ H) (e : m.st[k]? = some (.lst xs)) (ha : A[k]? = some a) (r : Reps K F ys ws) :
    Good K W F A ⟨m.sl, m.st.set k (.lst ys)⟩ σ (upd H a (.lst ws)) := by
  obtain ⟨a', vs, h1, h2, h3, h4, h5⟩ := G.st k xs e
  rw [ha] at h1
  cases h1
  have hk : k < m.st.length := (List.getElem?_eq_some_iff.mp e).1
  have sp : ∀ j c, (m.st.set k (Cell.lst ys))[j]? = some c → (j = k ∧ c = .lst ys) ∨ (j ≠ k ∧ m.st[j]? = some c) := fun j c q => by
    rw [List.getElem?_set] at q
    by_cases hj : k = j
    · rw [if_pos hj, if_pos hk] at q
      exact .inl ⟨hj.symm, (Option.some.inj q).symm⟩
    · rw [if_neg hj] at q
      exact .inr ⟨fun z => hj z.symm, q⟩
  refine ⟨fun b x q => ?_, fun b x q => ?_, G.dj, G.slen, G.sl, by rw [List.length_set]; exact G.len, fun j zs q => ?_, fun i j zs ts b q1 q2 p1 p2 => ?_, fun q hq => ⟨tab_lst (G.tb q hq).1 h2, (G.tb q hq).2⟩⟩
  · have nb : b ≠ a := fun z => by
      rw [z, h4] at q
      cases q
    rw [upd_ne nb]
    exact G.ext _ _ q
  · have nb : b ≠ a := fun z => by
      rw [z, h5] at q
      cases q
    rw [upd_ne nb]
    exact G.hid _ _ q
  · rcases sp j _ q with ⟨rfl, ec⟩ | ⟨hj, q'⟩
    · cases ec
      exact ⟨a, ws, ha, upd_same, r, h4, h5⟩
    · obtain ⟨b, us, p1, p2, p3, p4⟩ := G.st j zs q'
      have nb : b ≠ a := fun z => hj (G.nd j k zs xs a q' e (by rw [← z]; exact p1) ha)
      exact ⟨b, us, p1, by rw [upd_ne nb]; exact p2, p3, p4⟩
  · have i' : ∃ zs', m.st[i]? = some (.lst zs') := by
      rcases sp i _ q1 with ⟨rfl, _⟩ | ⟨_, q'⟩
      · exact ⟨_, e⟩
      · exact ⟨_, q'⟩
    have j' : ∃ zs', m.st[j]? = some (.lst zs') := by
      rcases sp j _ q2 with ⟨rfl, _⟩ | ⟨_, q'⟩
      · exact ⟨_, e⟩
      · exact ⟨_, q'⟩
    obtain ⟨z1, i'⟩ := i'
    obtain ⟨z2, j'⟩ := j'
    exact G.nd i j z1 z2 b i' j' p1 p2
/-- a list of one's own becomes plain data -/
def frz (k : Nat) (xs : List Dt) (m : M) : M := ⟨m.sl.map fun o => match o with
  | some (.c j) => if j = k then some (.d (.lst xs)) else some (.c j)
  | o => o, m.st.set k .dead⟩
theorem Good.freeze {k : Nat} {xs : List Dt} (G : Good K W F A m σ H) (e : m.st[k]? = some (.lst xs)) : ∃ F' a, Same F F' ∧ A[k]? = some a ∧ Rep K F' (.lst xs) (.ref a) ∧ Good K W F' A (frz k xs m) σ H := by
  obtain ⟨a, vs, h1, h2, h3, h4, h5⟩ := G.st k xs e
  have s : Same F (upd F a (.lst vs)) := same_upd h4
  have hk : k < m.st.length := (List.getElem?_eq_some_iff.mp e).1
  have rp : Rep K (upd F a (.lst vs)) (.lst xs) (.ref a) := by
    simp only [Rep]
    exact ⟨a, vs, rfl, Rd.of upd_same, Reps.mono s h3⟩
  have sp : ∀ j zs, (m.st.set k Cell.dead)[j]? = some (.lst zs) → j ≠ k ∧ m.st[j]? = some (.lst zs) := fun j c q => by
    rw [List.getElem?_set] at q
    by_cases hj : k = j
    · rw [if_pos hj, if_pos hk] at q
      cases q
    · rw [if_neg hj] at q
      exact ⟨fun z => hj z.symm, q⟩
  refine ⟨upd F a (.lst vs), a, s, h1, rp, ⟨fun b x q => ?_, G.hid, fun b x q => by rw [upd_ne (fun z => by rw [z, h5] at q; cases q)]; exact G.dj b x q, by unfold frz; rw [List.length_map]; exact G.slen, fun i v q => ?_, by unfold frz; rw [List.length_set]; exact G.len, fun j zs q => ?_, fun i j zs ts b q1 q2 p1 p2 => ?_, fun q hq => ⟨(G.tb q hq).1, by rw [upd_ne (tab_ne (G.tb q hq).1 h2)]; exact (G.tb q hq).2.1, (G.tb q hq).2.2⟩⟩⟩
  · by_cases hb : b = a
    · subst hb
      rw [upd_same] at q
      cases q
      exact h2
    · rw [upd_ne hb] at q
      exact G.ext _ _ q
  · unfold frz at q
    rw [List.getElem?_map] at q
    cases r : m.sl[i]? with
    | none =>
      rw [r] at q
      cases q
    | some o =>
      rw [r] at q
      cases o with
      | none => cases q
      | some w =>
        obtain ⟨u, p1, p2⟩ := G.sl i w r
        cases w with
        | d x =>
          cases q
          exact ⟨u, p1, Rep.mono s p2⟩
        | c j =>
          by_cases hj : j = k
          · subst hj
            have q' : some (some (if j = j then Vl.d (.lst xs) else .c j)) = some (some v) := by
              rw [if_pos rfl]
              simpa using q
            rw [if_pos rfl] at q'
            cases q'
            obtain ⟨b, p3, rfl⟩ := p2
            rw [h1] at p3
            cases p3
            exact ⟨_, p1, rp⟩
          · have q' : v = .c j := by
              have : (if j = k then some (Vl.d (.lst xs)) else some (.c j)) = some v := Option.some.inj q
              rw [if_neg hj] at this
              exact (Option.some.inj this).symm
            subst q'
            exact ⟨u, p1, p2⟩
  · obtain ⟨hj, q'⟩ := sp j zs q
    obtain ⟨b, us, p1, p2, p3, p4⟩ := G.st j zs q'
    have nb : b ≠ a := fun z => hj (G.nd j k zs xs a q' e (by rw [← z]; exact p1) h1)
    exact ⟨b, us, p1, p2, Reps.mono s p3, by rw [upd_ne nb]; exact p4.1, p4.2⟩
  · obtain ⟨_, q1'⟩ := sp i zs q1
    obtain ⟨_, q2'⟩ := sp j ts q2
    exact G.nd i j zs ts b q1' q2' p1 p2
/-- what an operation reads: plain data, or a list of one's own as it stands -/
def view (m : M) : Vl → Option Dt
  | .d x => some x
  | .c k => match m.st[k]? with
    | some (.lst xs) => some (.lst xs)
    | _ => none
/-- the outermost container by the whole heap, what is in it by the plain part -/
def RepB (K : PySem.W.Frag) (F H : Hp) : Dt → V → Prop
  | .lst ds, u => ∃ a vs, u = .ref a ∧ Rd H a (.lst vs) ∧ Reps K F ds vs
  | x, u => Rep K F x u
theorem Good.view {v : Vl} {u : V} {x : Dt} (G : Good K W F A m σ H) (r : RepV K F A v u) (e : view m v = some x) : RepB K F H x u := by
  cases v with
  | d y =>
    cases e
    cases x with
    | lst ds =>
      have r' : Rep K F (.lst ds) u := r
      simp only [Rep] at r'
      obtain ⟨a, vs, e1, s, q⟩ := r'
      exact ⟨a, vs, e1, rd_mono G.ext s, q⟩
    | _ => exact r
  | c k =>
    obtain ⟨a, h1, rfl⟩ := r
    unfold RT.view at e
    cases q : m.st[k]? with
    | none =>
      simp only [q] at e
      cases e
    | some c =>
      cases c with
      | dead =>
        simp only [q] at e
        cases e
      | lst xs =>
        simp only [q] at e
        cases e
        obtain ⟨a', vs, h1', h2, h3, _⟩ := G.st k xs q
        rw [h1] at h1'
        cases h1'
        exact ⟨a, vs, rfl, Rd.of h2, h3⟩
end
end RT

set_option maxRecDepth 100000
set_option maxHeartbeats 4000000
namespace RT
open PySem PySem.Spec PyProof.Rows L2

/-! ### reading a value -/
def onV (m : M) (v : Vl) (k : Dt → Prop) : Prop := match view m v with
  | some x => k x
  | none => False
theorem onV_elim {m : M} {v : Vl} {k : Dt → Prop} (h : onV m v k) : ∃ x, view m v = some x ∧ k x := by
  unfold onV at h
  split at h
  · exact ⟨_, by assumption, h⟩
  · exact h.elim
/-- a value that is plain data -/
def onD (v : Vl) (k : Dt → Prop) : Prop := match v with
  | .d x => k x
  | .c _ => False
theorem onD_elim {v : Vl} {k : Dt → Prop} (h : onD v k) : ∃ x, v = .d x ∧ k x := by
  cases v with
  | d x => exact ⟨x, rfl, h⟩
  | c k => exact h.elim

/-- a list of one's own that is there -/
def onC (st : List Cell) (k : Nat) (P : List Dt → Prop) : Prop := match st[k]? with
  | some (.lst xs) => P xs
  | _ => False
theorem onC_elim {st : List Cell} {k : Nat} {P : List Dt → Prop} (h : onC st k P) : ∃ xs, st[k]? = some (.lst xs) ∧ P xs := by
  unfold onC at h
  split at h
  · exact ⟨_, by assumption, h⟩
  · exact h.elim
theorem onC_mk {st : List Cell} {k : Nat} {P : List Dt → Prop} {xs : List Dt} (e : st[k]? = some (.lst xs)) (h : P xs) : onC st k P := by
  unfold onC
  rw [e]
  exact h
section
variable {X : Cx}

/-! ### names and constants -/
def dVar (i : Nat) : DE := fun m Q => match m.sl[i]? with
  | some (some v) => Q v m
  | _ => False
theorem dVar_elim {i : Nat} {m : M} {Q : Vl → M → Prop} (h : dVar i m Q) : ∃ v, m.sl[i]? = some (some v) ∧ Q v m := by
  unfold dVar at h
  split at h
  · exact ⟨_, by assumption, h⟩
  · exact h.elim
theorem je_var (i : Nat) {x : Str} {pos : Pos} (hN : X.N[i]? = some x := by rfl) (hv : Vis X.env.scope x := by first | exact Or.inl rfl | exact Or.inr (Or.inl rfl) | exact Or.inr (Or.inr rfl)) (hd : (x == ("__debug__" : Str)) = false := by decide)
    (hcd : (x == ("__classdict__" : Str)) = false := by decide) : JE X (.Name x pos) (dVar i) :=
  (pv i hN hv hd hcd).imp fun σ H Q ⟨W, F, A, m, Qd, G, h, c⟩ => by
    obtain ⟨v, e, q⟩ := dVar_elim h
    obtain ⟨u, e', r⟩ := G.sl i v e
    exact ⟨u, e', c F A v m H (Same.refl _) (pre_refl _) G q u r⟩
/-- a name whose list becomes plain data -/
def dFz (i : Nat) : DE := fun m Q => match m.sl[i]? with
  | some (some (.d x)) => Q (.d x) m
  | some (some (.c k)) => onC m.st k fun xs => Q (.d (.lst xs)) (frz k xs m)
  | _ => False
theorem je_fz (i : Nat) {x : Str} {pos : Pos} (hN : X.N[i]? = some x := by rfl) (hv : Vis X.env.scope x := by first | exact Or.inl rfl | exact Or.inr (Or.inl rfl) | exact Or.inr (Or.inr rfl)) (hd : (x == ("__debug__" : Str)) = false := by decide)
    (hcd : (x == ("__classdict__" : Str)) = false := by decide) : JE X (.Name x pos) (dFz i) :=
  (pv i hN hv hd hcd).imp fun σ H Q ⟨W, F, A, m, Qd, G, h, c⟩ => by
    unfold dFz at h
    split at h
    · rename_i x e
      obtain ⟨u, e', r⟩ := G.sl i _ e
      exact ⟨u, e', c F A _ m H (Same.refl _) (pre_refl _) G h u r⟩
    · rename_i k e
      obtain ⟨xs, es, h⟩ := onC_elim h
      obtain ⟨u, e', r⟩ := G.sl i _ e
      obtain ⟨F', a, s, ha, rp, G'⟩ := G.freeze es
      obtain ⟨b, hb, rfl⟩ := r
      rw [ha] at hb
      cases hb
      exact ⟨_, e', c F' A _ _ H s (pre_refl _) G' h _ rp⟩
    · exact h.elim

def dC (x : Dt) : DE := fun m Q => Q (.d x) m
theorem lift_c {K : PySem.W.Frag} {x : Dt} {v : V} (r : ∀ F, Rep K F x v) {σ : L2.St} {H : Hp} {Q : VK} (h : lift K (dC x) σ H Q) : tC v σ H Q := by
  obtain ⟨W, F, A, m, Qd, G, h, c⟩ := h
  exact c F A _ m H (Same.refl _) (pre_refl _) G h v (r F)
theorem rep_int {K : PySem.W.Frag} {F : Hp} {i : Int} : Rep K F (.int i) (.int i) := by simp only [Rep]
theorem rep_bl {K : PySem.W.Frag} {F : Hp} {b : Bool} : Rep K F (.bl b) (.bl b) := by simp only [Rep]
theorem rep_non {K : PySem.W.Frag} {F : Hp} : Rep K F .non .non := by simp only [Rep]
theorem rep_str {K : PySem.W.Frag} {F : Hp} {s : Str} : Rep K F (.str s) (.str s) := by simp only [Rep]
theorem je_int {i j pos} : JE X (.Constant (.int i) j pos) (dC (.int i)) := pe_int.imp fun _ _ _ h => lift_c (fun _ => rep_int) h
theorem je_bl {b j pos} : JE X (.Constant (.bool b) j pos) (dC (.bl b)) := pe_bl.imp fun _ _ _ h => lift_c (fun _ => rep_bl) h
theorem je_non {j pos} : JE X (.Constant .none j pos) (dC .non) := pe_non.imp fun _ _ _ h => lift_c (fun _ => rep_non) h
theorem je_str {x j pos} : JE X (.Constant (.str x) j pos) (dC (.str x)) := pe_str.imp fun _ _ _ h => lift_c (fun _ => rep_str) h
/-- a constant of the module -/
structure GlobD (X : Cx) (x : Str) (d : Dt) : Prop where
  gl : Gl X x
  val : ∃ (v : V) (u : Value), X.mg x = some u ∧ RelV v u ∧ ∀ F, Rep X.K F d v
  nd : (x == ("__debug__" : Str)) = false
theorem je_glob {x : Str} {d : Dt} {pos : Pos} (g : GlobD X x d) : JE X (.Name x pos) (dC d) := by
  obtain ⟨hg, ⟨v, u, hm, r, rp⟩, nd⟩ := g
  exact (pe_glob hg hm r nd).imp fun _ _ _ h => lift_c rp h

/-! ### operations of two values -/
abbrev DR2 := Dt → Dt → (Dt → Prop) → Prop
def dOp (r : DR2) (ta tb : DE) : DE := fun m Q => ta m fun v m1 => tb m1 fun w m2 => onV m2 v fun x => onV m2 w fun y => r x y fun z => Q (.d z) m2
/-- what a rule by values is worth over plain data; a new object may be laid -/
def ValD (K : PySem.W.Frag) (R : V → V → Hp → VK → Prop) (r : DR2) : Prop :=
  ∀ (W F : Hp) (A : List Addr) (m : M) (σ : L2.St) (H : Hp) (x y : Dt) (u v : V) (P : Dt → Prop) (Q : VK), Good K W F A m σ H → RepB K F H x u → RepB K F H y v → r x y P →
    (∀ F' H' z w, Same F F' → Good K W F' A m σ H' → Rep K F' z w → P z → Q w H') → R u v H Q
def OpD (X : Cx) (f : Value → Value → Sem Value) (r : DR2) : Prop := ∃ R : R2, OpR X f R ∧ ValD X.K R r
theorem lift_op {K : PySem.W.Frag} {R : R2} {r : DR2} {ta tb : DE} (hR : ValD K R r) {σ : L2.St} {H : Hp} {Q : VK} (h : lift K (dOp r ta tb) σ H Q) : tOp R (lift K ta) (lift K tb) σ H Q := by
  obtain ⟨W, F, A, m, Qd, G, h, c⟩ := h
  refine ⟨W, F, A, m, _, G, h, fun F1 A1 v m1 H1 s1 p1 G1 q1 u r1 => ⟨W, F1, A1, m1, _, G1, q1, fun F2 A2 w m2 H2 s2 p2 G2 q2 u2 r2 => ?_⟩⟩
  obtain ⟨x, ex, q2⟩ := onV_elim q2
  obtain ⟨y, ey, q2⟩ := onV_elim q2
  exact hR W F2 A2 m2 σ H2 x y u u2 _ Q G2 (G2.view (RepV.mono s2 p2 r1) ex) (G2.view r2 ey) q2 fun F' H' z w s' G' rz pz => c F' A2 (.d z) m2 H' (s1.trans (s2.trans s')) (pre_trans p1 p2) G' pz w rz
theorem je_op {a b : Expr} {ta tb : DE} {op : Operator} {r : DR2} {pos : Pos} (ho : OpD X (binaryOp op) r) (ha : JE X a ta) (hb : JE X b tb) : JE X (.BinOp a op b pos) (dOp r ta tb) := by
  obtain ⟨R, hO, hR⟩ := ho
  exact (pe_op hO ha hb).imp fun _ _ _ h => lift_op hR h
theorem je_cmp {a b : Expr} {ta tb : DE} {op : CmpOp} {r : DR2} {pos : Pos} (ho : OpD X (compareOp op) r) (ha : JE X a ta) (hb : JE X b tb) (hm : behindInMarks op b = false) : JE X (.Compare a [op] [b] pos) (dOp r ta tb) := by
  obtain ⟨R, hO, hR⟩ := ho
  exact (pe_cmpR hO ha hb hm).imp fun _ _ _ h => lift_op hR h

/-- an expression that gives True or False, as a test -/
def dTest (t : DE) : DT := fun m Q => t m fun v m1 => match v with
  | .d (.bl b) => Q b m1
  | _ => False
theorem dTest_elim {v : Vl} {k : Bool → Prop} (h : match v with
  | .d (.bl b) => k b
  | _ => False) : ∃ b, v = .d (.bl b) ∧ k b := by
  split at h
  · exact ⟨_, rfl, h⟩
  · exact h.elim
theorem jt_cmp {a b : Expr} {ta tb : DE} {op : CmpOp} {r : DR2} {pos : Pos} (ho : OpD X (compareOp op) r) (ha : JE X a ta) (hb : JE X b tb) (hm : behindInMarks op b = false) : JT X (.Compare a [op] [b] pos) (dTest (dOp r ta tb)) := by
  obtain ⟨R, hO, hR⟩ := ho
  refine (pt_cmpR hO ha hb hm).imp fun σ H Q h => ?_
  obtain ⟨W, F, A, m, Qd, G, h, c⟩ := h
  refine lift_op hR ⟨W, F, A, m, _, G, h, fun F1 A1 v m1 H1 s1 p1 G1 q1 u r1 => ?_⟩
  obtain ⟨k, rfl, q⟩ := dTest_elim q1
  have r1' : Rep X.K F1 (.bl k) u := r1
  simp only [Rep] at r1'
  exact ⟨k, r1', c F1 A1 k m1 H1 s1 p1 G1 q⟩

/-! ### the operators -/
def rInt (C : Int → Int → Prop) (g : Int → Int → Dt) : DR2 := fun x y P => match x, y with
  | .int i, .int j => C i j ∧ P (g i j)
  | _, _ => False
theorem rInt_elim {C : Int → Int → Prop} {g : Int → Int → Dt} {x y : Dt} {P : Dt → Prop} (h : rInt C g x y P) : ∃ i j, x = .int i ∧ y = .int j ∧ C i j ∧ P (g i j) := by
  unfold rInt at h
  split at h
  · exact ⟨_, _, rfl, rfl, h⟩
  · exact h.elim
theorem repB_int {K : PySem.W.Frag} {F H : Hp} {i : Int} {u : V} (h : RepB K F H (.int i) u) : u = .int i := by
  have h' : Rep K F (.int i) u := h
  simpa only [Rep] using h'
theorem repB_str {K : PySem.W.Frag} {F H : Hp} {i : Str} {u : V} (h : RepB K F H (.str i) u) : u = .str i := by
  have h' : Rep K F (.str i) u := h
  simpa only [Rep] using h'
theorem repB_bl {K : PySem.W.Frag} {F H : Hp} {i : Bool} {u : V} (h : RepB K F H (.bl i) u) : u = .bl i := by
  have h' : Rep K F (.bl i) u := h
  simpa only [Rep] using h'
theorem repB_non {K : PySem.W.Frag} {F H : Hp} {u : V} (h : RepB K F H .non u) : u = .non := by
  have h' : Rep K F .non u := h
  simpa only [Rep] using h'
theorem opD_int {f : Value → Value → Sem Value} {C : Int → Int → Prop} {g : Int → Int → V} {gd : Int → Int → Dt} (h : OpR X f (rI C g)) (hg : ∀ F i j, Rep X.K F (gd i j) (g i j)) : OpD X f (rInt C gd) :=
  ⟨_, h, fun W F A m σ H x y u v P Q G rx ry q c => by
    obtain ⟨i, j, rfl, rfl, hc, q⟩ := rInt_elim q
    exact ⟨i, j, repB_int rx, repB_int ry, hc, c F H _ _ (Same.refl _) G (hg F i j) q⟩⟩
theorem opD_int0 {f : Value → Value → Sem Value} {g : Int → Int → V} {gd : Int → Int → Dt} (h : OpR X f (rI0 g)) (hg : ∀ F i j, Rep X.K F (gd i j) (g i j)) : OpD X f (rInt (fun _ _ => True) gd) :=
  ⟨_, h, fun W F A m σ H x y u v P Q G rx ry q c => by
    obtain ⟨i, j, rfl, rfl, hc, q⟩ := rInt_elim q
    exact ⟨i, j, repB_int rx, repB_int ry, c F H _ _ (Same.refl _) G (hg F i j) q⟩⟩
theorem o_add : OpD X (binaryOp .Add) (rInt (fun _ _ => True) fun i j => .int (i + j)) := opD_int0 op_add fun _ _ _ => rep_int
theorem o_sub : OpD X (binaryOp .Sub) (rInt (fun _ _ => True) fun i j => .int (i - j)) := opD_int0 op_sub fun _ _ _ => rep_int
/-- the product has fewer than 2 ^ 26 bits -/
def MulOk (i j : Int) : Prop := i.natAbs.log2 + j.natAbs.log2 < 67108864
theorem MulOk.ok {i j : Int} (h : MulOk i j) : IntMulOk i j := by
  have b : ∀ x : Int, Builtin.Int.intBits x ≤ x.natAbs.log2 + 1 := fun x => by
    unfold Builtin.Int.intBits
    split <;> omega
  have h1 := b i
  have h2 := b j
  have h3 : i.natAbs.log2 + j.natAbs.log2 < 67108864 := h
  have e : bitsLine = 134217728 := by decide
  unfold IntMulOk
  intro z
  rw [Bool.and_eq_true] at z
  have z2 := z.2
  unfold Builtin.Int.intTooBig at z2
  have z3 := of_decide_eq_true z2
  rw [e] at z3
  omega
theorem o_mul : OpD X (binaryOp .Mult) (rInt MulOk fun i j => .int (i * j)) := opD_int (C := MulOk) (opI fun _ _ _ _ _ _ _ hc q => mul_int q hc.ok) fun _ _ _ => rep_int
theorem o_mod : OpD X (binaryOp .Mod) (rInt (fun _ j => j ≠ 0) fun i j => .int (i.fmod j)) := opD_int op_modN fun _ _ _ => rep_int
theorem o_pow : OpD X (binaryOp .Pow) (rInt CPow fun i j => .int (i ^ j.toNat)) := opD_int op_pow fun _ _ _ => rep_int
theorem o_lt : OpD X (compareOp .Lt) (rInt (fun _ _ => True) fun i j => .bl (decide (i < j))) := opD_int0 op_lt fun _ _ _ => rep_bl
theorem o_le : OpD X (compareOp .LtE) (rInt (fun _ _ => True) fun i j => .bl (decide (i ≤ j))) := opD_int0 op_le fun _ _ _ => rep_bl
theorem o_gt : OpD X (compareOp .Gt) (rInt (fun _ _ => True) fun i j => .bl (decide (j < i))) := opD_int0 op_gt fun _ _ _ => rep_bl
theorem o_ge : OpD X (compareOp .GtE) (rInt (fun _ _ => True) fun i j => .bl (decide (j ≤ i))) := opD_int0 op_ge fun _ _ _ => rep_bl
end
end RT

set_option maxRecDepth 100000
set_option maxHeartbeats 4000000
namespace RT
open PySem PySem.Spec PyProof.Rows L2
section
variable {X : Cx}

theorem rv_int {K : PySem.W.Frag} {F : Hp} {A : List Addr} {i : Int} : RepV K F A (.d (.int i)) (.int i) := rep_int (K := K) (F := F)
theorem rv_bl {K : PySem.W.Frag} {F : Hp} {A : List Addr} {b : Bool} : RepV K F A (.d (.bl b)) (.bl b) := rep_bl (K := K) (F := F)
theorem rv_non {K : PySem.W.Frag} {F : Hp} {A : List Addr} : RepV K F A (.d .non) .non := rep_non (K := K) (F := F)
theorem rv_str {K : PySem.W.Frag} {F : Hp} {A : List Addr} {b : Str} : RepV K F A (.d (.str b)) (.str b) := rep_str (K := K) (F := F)
/-! ### division by any divisor -/
def Pyl (X : Cx) : Prop := ∀ s : Shared, (∀ b o, X.base.get? b = some o → s.heap.get? b = some o) → PySem.PylongRoom (model X.prog X.w) X.A s
def rFdiv : R2 := rI (fun _ j => j ≠ 0) fun i j => .int (i.fdiv j)
theorem op_fdivA (hp : Pyl X) : OpR X (binaryOp .FloorDiv) rFdiv := by
  intro pins s σ H x y v u Q I rx ry h
  obtain ⟨i, j, rfl, rfl, hc, q⟩ := h
  obtain ⟨t, rfl⟩ := rx
  obtain ⟨t', rfl⟩ := ry
  exact floordiv_int hc ⟨.int _, H, I.tok _, ⟨_, rfl⟩, q⟩ (.inr (hp s I.bk))
theorem o_fdiv (hp : Pyl X) : OpD X (binaryOp .FloorDiv) (rInt (fun _ j => j ≠ 0) fun i j => .int (i.fdiv j)) := opD_int (op_fdivA hp) fun _ _ _ => rep_int

/-! ### one-place operations -/
def rU (f : Dt → (Dt → Prop) → Prop) (t : DE) : DE := fun m Q => t m fun v m1 => onD v fun x => f x fun z => Q (.d z) m1
def rNeg : Dt → (Dt → Prop) → Prop := fun x P => match x with
  | .int i => P (.int (-i))
  | _ => False
theorem je_neg {a : Expr} {ta : DE} {pos : Pos} (ha : JE X a ta) : JE X (.UnaryOp .USub a pos) (rU rNeg ta) := by
  refine (pe_un un_neg ha).imp fun σ H Q h => ?_
  obtain ⟨W, F, A, m, Qd, G, h, c⟩ := h
  refine ⟨W, F, A, m, _, G, h, fun F1 A1 v m1 H1 s1 p1 G1 q1 u r1 => ?_⟩
  obtain ⟨x, rfl, q⟩ := onD_elim q1
  cases x with
  | int i =>
    have e : u = .int i := repB_int (H := H1) r1
    exact ⟨i, e, c F1 A1 _ m1 H1 s1 p1 G1 q _ rv_int⟩
  | _ => exact (show False from q).elim

theorem repB_tup {K : PySem.W.Frag} {F H : Hp} {ds : List Dt} {u : V} (h : RepB K F H (.tup ds) u) : ∃ a vs, u = .ref a ∧ SqT K F a vs ∧ Reps K F ds vs := by
  have h' : Rep K F (.tup ds) u := h
  simpa only [Rep] using h'
/-! ### tests -/
theorem jt_imp {e : Expr} {t t' : DT} (h : JT X e t) (f : ∀ m Q, t' m Q → t m Q) : JT X e t' := h.imp fun σ H Q ⟨W, F, A, m, Qd, G, q, c⟩ => ⟨W, F, A, m, Qd, G, f _ _ q, c⟩
theorem je_imp {e : Expr} {t t' : DE} (h : JE X e t) (f : ∀ m Q, t' m Q → t m Q) : JE X e t' := h.imp fun σ H Q ⟨W, F, A, m, Qd, G, q, c⟩ => ⟨W, F, A, m, Qd, G, f _ _ q, c⟩
/-- a value's truth -/
def truD : Dt → (Bool → Prop) → Prop := fun x P => match x with
  | .non => P false
  | .bl b => P b
  | .int i => P (i != 0)
  | .str y => y.length ≤ sizeLine ∧ P ((y.length : Int) != 0)
  | .lst xs => P (!xs.isEmpty)
  | .tup xs => P (!xs.isEmpty)
def dTru (t : DE) : DT := fun m Q => t m fun v m1 => onV m1 v fun x => truD x fun b => Q b m1
theorem empty_eq {K : PySem.W.Frag} {F : Hp} {ds : List Dt} {vs : List V} (r : Reps K F ds vs) : ds.isEmpty = vs.isEmpty := by
  have e := r.length
  cases ds <;> cases vs <;> first | rfl | (simp at e)
theorem jt_tru {a : Expr} {ta : DE} (ha : JE X a ta) (he : ∀ whole, isTrue a X.env whole = (do let v ← whole; standAt a.pos; holding [v] (truthy v)) := by intro _; rfl) : JT X a (dTru ta) := by
  refine (pt_truth ha he).imp fun σ H Q h => ?_
  obtain ⟨W, F, A, m, Qd, G, h, c⟩ := h
  refine ⟨W, F, A, m, _, G, h, fun F1 A1 v m1 H1 s1 p1 G1 q1 u r1 => ?_⟩
  obtain ⟨x, ex, q⟩ := onV_elim q1
  have rb := G1.view r1 ex
  cases x with
  | non =>
    rw [repB_non rb]
    exact ⟨false, rfl, c F1 A1 _ m1 H1 s1 p1 G1 q⟩
  | bl b =>
    rw [repB_bl rb]
    exact ⟨b, rfl, c F1 A1 _ m1 H1 s1 p1 G1 q⟩
  | int i =>
    rw [repB_int rb]
    exact ⟨_, rfl, c F1 A1 _ m1 H1 s1 p1 G1 q⟩
  | str y =>
    rw [repB_str rb]
    exact ⟨_, ⟨q.1, rfl⟩, c F1 A1 _ m1 H1 s1 p1 G1 q.2⟩
  | lst xs =>
    obtain ⟨a, vs, rfl, hs, rs⟩ := rb
    have q' : Qd (!xs.isEmpty) m1 := q
    rw [empty_eq rs] at q'
    exact ⟨_, .inl ⟨vs, .inl hs, rfl⟩, c F1 A1 _ m1 H1 s1 p1 G1 q'⟩
  | tup xs =>
    obtain ⟨a, vs, rfl, hs, rs⟩ := repB_tup rb
    have hs := seqT_mono G1.ext hs
    have q' : Qd (!xs.isEmpty) m1 := q
    rw [empty_eq rs] at q'
    exact ⟨_, .inr (.inl ⟨vs, hs, rfl⟩), c F1 A1 _ m1 H1 s1 p1 G1 q'⟩
/-- a bool as a test: the short form -/
theorem jt_val {a : Expr} {ta : DE} (ha : JE X a ta) (he : ∀ whole, isTrue a X.env whole = (do let v ← whole; standAt a.pos; holding [v] (truthy v)) := by intro _; rfl) : JT X a (dTest ta) := by
  refine (pt_truth ha he).imp fun σ H Q h => ?_
  obtain ⟨W, F, A, m, Qd, G, h, c⟩ := h
  refine ⟨W, F, A, m, _, G, h, fun F1 A1 v m1 H1 s1 p1 G1 q1 u r1 => ?_⟩
  obtain ⟨b, rfl, q⟩ := dTest_elim q1
  rw [repB_bl (H := H1) r1]
  exact ⟨b, rfl, c F1 A1 _ m1 H1 s1 p1 G1 q⟩
def dAnd (t u : DT) : DT := fun m Q => t m fun b m1 => if b = true then u m1 Q else Q false m1
def dOr (t u : DT) : DT := fun m Q => t m fun b m1 => if b = true then Q true m1 else u m1 Q
def dNot (t : DT) : DT := fun m Q => t m fun b m1 => Q (!b) m1
variable {a b : Expr} {rest : List Expr} {pos : Pos} {t u : DT} {ta tb : DE}
theorem jw_and1 (h : JT X a t) : JW X (.BoolOp .And [a] pos) t := pw_and1 h
theorem jw_or1 (h : JT X a t) : JW X (.BoolOp .Or [a] pos) t := pw_or1 h
theorem jw_and (h : JT X a t) (h' : JW X (.BoolOp .And (b :: rest) pos) u) : JW X (.BoolOp .And (a :: b :: rest) pos) (dAnd t u) := by
  refine (pw_and h h').imp fun σ H Q hh => ?_
  obtain ⟨W, F, A, m, Qd, G, h, c⟩ := hh
  refine ⟨W, F, A, m, _, G, h, fun F1 A1 v m1 H1 s1 p1 G1 q1 => ?_⟩
  cases v with
  | true => exact ⟨W, F1, A1, m1, _, G1, q1, fun F2 A2 w m2 H2 s2 p2 G2 q2 => c F2 A2 w m2 H2 (s1.trans s2) (pre_trans p1 p2) G2 q2⟩
  | false => exact c F1 A1 false m1 H1 s1 p1 G1 q1
theorem jw_or (h : JT X a t) (h' : JW X (.BoolOp .Or (b :: rest) pos) u) : JW X (.BoolOp .Or (a :: b :: rest) pos) (dOr t u) := by
  refine (pw_or h h').imp fun σ H Q hh => ?_
  obtain ⟨W, F, A, m, Qd, G, h, c⟩ := hh
  refine ⟨W, F, A, m, _, G, h, fun F1 A1 v m1 H1 s1 p1 G1 q1 => ?_⟩
  cases v with
  | true => exact c F1 A1 true m1 H1 s1 p1 G1 q1
  | false => exact ⟨W, F1, A1, m1, _, G1, q1, fun F2 A2 w m2 H2 s2 p2 G2 q2 => c F2 A2 w m2 H2 (s1.trans s2) (pre_trans p1 p2) G2 q2⟩
theorem jw_pt {e : Expr} (h : JW X e t) : JT X e t := PW.pt h
theorem jt_not (h : JT X a t) : JT X (.UnaryOp .Not a pos) (dNot t) := by
  refine (pt_not h).imp fun σ H Q hh => ?_
  obtain ⟨W, F, A, m, Qd, G, h, c⟩ := hh
  exact ⟨W, F, A, m, _, G, h, fun F1 A1 v m1 H1 s1 p1 G1 q1 => c F1 A1 _ m1 H1 s1 p1 G1 q1⟩
/-! as values -/
def dAndV (t u : DE) : DE := fun m Q => t m fun v m1 => match v with
  | .d (.bl b) => if b = true then u m1 Q else Q (.d (.bl false)) m1
  | _ => False
def dOrV (t u : DE) : DE := fun m Q => t m fun v m1 => match v with
  | .d (.bl b) => if b = true then Q (.d (.bl true)) m1 else u m1 Q
  | _ => False
def dNotV (t : DE) : DE := fun m Q => t m fun v m1 => match v with
  | .d (.bl b) => Q (.d (.bl (!b))) m1
  | _ => False
theorem je_one {op} (h : JE X a ta) : JE X (.BoolOp op [a] pos) ta := pe_one h
theorem je_and (h : JE X a ta) (h' : JE X (.BoolOp .And (b :: rest) pos) tb) : JE X (.BoolOp .And (a :: b :: rest) pos) (dAndV ta tb) := by
  refine (pe_and h h').imp fun σ H Q hh => ?_
  obtain ⟨W, F, A, m, Qd, G, h, c⟩ := hh
  refine ⟨W, F, A, m, _, G, h, fun F1 A1 v m1 H1 s1 p1 G1 q1 u r1 => ?_⟩
  obtain ⟨b, rfl, q⟩ := dTest_elim q1
  rw [repB_bl (H := H1) r1]
  refine ⟨b, rfl, ?_⟩
  cases b with
  | true => exact ⟨W, F1, A1, m1, _, G1, q, fun F2 A2 w m2 H2 s2 p2 G2 q2 => c F2 A2 w m2 H2 (s1.trans s2) (pre_trans p1 p2) G2 q2⟩
  | false => exact c F1 A1 _ m1 H1 s1 p1 G1 q _ rv_bl
theorem je_or (h : JE X a ta) (h' : JE X (.BoolOp .Or (b :: rest) pos) tb) : JE X (.BoolOp .Or (a :: b :: rest) pos) (dOrV ta tb) := by
  refine (pe_or h h').imp fun σ H Q hh => ?_
  obtain ⟨W, F, A, m, Qd, G, h, c⟩ := hh
  refine ⟨W, F, A, m, _, G, h, fun F1 A1 v m1 H1 s1 p1 G1 q1 u r1 => ?_⟩
  obtain ⟨b, rfl, q⟩ := dTest_elim q1
  rw [repB_bl (H := H1) r1]
  refine ⟨b, rfl, ?_⟩
  cases b with
  | true => exact c F1 A1 _ m1 H1 s1 p1 G1 q _ rv_bl
  | false => exact ⟨W, F1, A1, m1, _, G1, q, fun F2 A2 w m2 H2 s2 p2 G2 q2 => c F2 A2 w m2 H2 (s1.trans s2) (pre_trans p1 p2) G2 q2⟩
/-- not e as a value, by its truth -/
def dNotT (t : DT) : DE := fun m Q => t m fun b m1 => Q (.d (.bl (!b))) m1
theorem je_notV (h : JE X a ta) : JE X (.UnaryOp .Not a pos) (dNotV ta) := by
  refine (pe_not h).imp fun σ H Q hh => ?_
  obtain ⟨W, F, A, m, Qd, G, h, c⟩ := hh
  refine ⟨W, F, A, m, _, G, h, fun F1 A1 v m1 H1 s1 p1 G1 q1 u r1 => ?_⟩
  obtain ⟨b, rfl, q⟩ := dTest_elim q1
  rw [repB_bl (H := H1) r1]
  exact ⟨b, rfl, c F1 A1 _ m1 H1 s1 p1 G1 q _ rv_bl⟩
def dIf (t : DT) (ta tb : DE) : DE := fun m Q => t m fun b m1 => if b = true then ta m1 Q else tb m1 Q
theorem je_if {e : Expr} (h : JT X e t) (ha : JE X a ta) (hb : JE X b tb) : JE X (.IfExp e a b pos) (dIf t ta tb) := by
  refine (pe_ifExp h ha hb).imp fun σ H Q hh => ?_
  obtain ⟨W, F, A, m, Qd, G, h, c⟩ := hh
  refine ⟨W, F, A, m, _, G, h, fun F1 A1 v m1 H1 s1 p1 G1 q1 => ?_⟩
  cases v with
  | true => exact ⟨W, F1, A1, m1, _, G1, q1, fun F2 A2 w m2 H2 s2 p2 G2 q2 => c F2 A2 w m2 H2 (s1.trans s2) (pre_trans p1 p2) G2 q2⟩
  | false => exact ⟨W, F1, A1, m1, _, G1, q1, fun F2 A2 w m2 H2 s2 p2 G2 q2 => c F2 A2 w m2 H2 (s1.trans s2) (pre_trans p1 p2) G2 q2⟩

/-! ### is None -/
def isN : Dt → Bool
  | .non => true
  | _ => false
theorem isN_of {K : PySem.W.Frag} {F : Hp} {x : Dt} {u : V} (r : Rep K F x u) : decide (u = .non) = isN x := by
  cases x with
  | non =>
    simp only [Rep] at r
    rw [r]
    rfl
  | tup ds =>
    simp only [Rep] at r
    obtain ⟨a, vs, rfl, _⟩ := r
    rfl
  | lst ds =>
    simp only [Rep] at r
    obtain ⟨a, vs, rfl, _⟩ := r
    rfl
  | _ =>
    simp only [Rep] at r
    rw [r]
    rfl
def dIsN (t : DE) : DE := fun m Q => t m fun v m1 => onD v fun x => Q (.d (.bl (isN x))) m1
def dNotN (t : DE) : DE := fun m Q => t m fun v m1 => onD v fun x => Q (.d (.bl (!isN x))) m1
theorem lift_isN {σ : L2.St} {H : Hp} {Q : VK} (h : lift X.K (dIsN ta) σ H Q) : tIsN (lift X.K ta) σ H Q := by
  obtain ⟨W, F, A, m, Qd, G, h, c⟩ := h
  refine ⟨W, F, A, m, _, G, h, fun F1 A1 v m1 H1 s1 p1 G1 q1 u r1 => ?_⟩
  obtain ⟨x, rfl, q⟩ := onD_elim q1
  rw [isN_of r1]
  exact c F1 A1 _ m1 H1 s1 p1 G1 q _ rv_bl
theorem lift_notN {σ : L2.St} {H : Hp} {Q : VK} (h : lift X.K (dNotN ta) σ H Q) : tNotN (lift X.K ta) σ H Q := by
  obtain ⟨W, F, A, m, Qd, G, h, c⟩ := h
  refine ⟨W, F, A, m, _, G, h, fun F1 A1 v m1 H1 s1 p1 G1 q1 u r1 => ?_⟩
  obtain ⟨x, rfl, q⟩ := onD_elim q1
  rw [isN_of r1]
  exact c F1 A1 _ m1 H1 s1 p1 G1 q _ rv_bl
theorem je_isN {j pos'} (ha : JE X a ta) : JE X (.Compare a [.Is] [.Constant .none j pos'] pos) (dIsN ta) := (pe_cmp (pc_isN ha)).imp fun _ _ _ h => lift_isN h
theorem je_notN {j pos'} (ha : JE X a ta) : JE X (.Compare a [.IsNot] [.Constant .none j pos'] pos) (dNotN ta) := (pe_cmp (pc_notN ha)).imp fun _ _ _ h => lift_notN h
theorem jt_of_cmp {op : CmpOp} {t : DE} {te : TE} (hc : PC X op a b te) (hl : ∀ σ H Q, lift X.K t σ H Q → te σ H Q) (h1 : behindInMarks op b = false := by first | exact nobehind _ (by decide) (by decide) | rfl) : JT X (.Compare a [op] [b] pos) (dTest t) := by
  refine (pt_cmp hc h1).imp fun σ H Q h => ?_
  obtain ⟨W, F, A, m, Qd, G, h, c⟩ := h
  refine hl σ H _ ⟨W, F, A, m, _, G, h, fun F1 A1 v m1 H1 s1 p1 G1 q1 u r1 => ?_⟩
  obtain ⟨k, rfl, q⟩ := dTest_elim q1
  exact ⟨k, repB_bl (H := H1) r1, c F1 A1 k m1 H1 s1 p1 G1 q⟩
theorem jt_isN {j pos'} (ha : JE X a ta) : JT X (.Compare a [.Is] [.Constant .none j pos'] pos) (dTest (dIsN ta)) := jt_of_cmp (pc_isN ha) fun _ _ _ h => lift_isN h
theorem jt_notN {j pos'} (ha : JE X a ta) : JT X (.Compare a [.IsNot] [.Constant .none j pos'] pos) (dTest (dNotN ta)) := jt_of_cmp (pc_notN ha) fun _ _ _ h => lift_notN h

/-! ### chains of comparisons -/
def dChain (r r' : DR2) (ta tb tc : DE) : DE := fun m Q => ta m fun v m1 => tb m1 fun w m2 => onD v fun x => onD w fun y => r x y fun z => match z with
  | .bl k => if k = true then tc m2 fun w' m3 => onD w' fun y' => r' y y' fun z' => Q (.d z') m3 else Q (.d (.bl false)) m2
  | _ => False

/-! ### argument lists -/
def dNil : DA := fun m Q => Q [] m
def dCons (t : DE) (ts : DA) : DA := fun m Q => t m fun v m1 => ts m1 fun vs m2 => Q (v :: vs) m2
theorem ja_nil : JA X [] dNil := pa_nil.imp fun σ H Q ⟨W, F, A, m, Qd, G, h, c⟩ => c F A [] m H (Same.refl _) (pre_refl _) G h [] rfl
theorem ja_cons {e : Expr} {es : List Expr} {ts : DA} (h : JE X e ta) (hs : JA X es ts) (he : starEach (e :: es) X.env = (false, eval e X.env) :: starEach es X.env := by rfl) : JA X (e :: es) (dCons ta ts) := by
  refine (pa_cons h hs he).imp fun σ H Q hh => ?_
  obtain ⟨W, F, A, m, Qd, G, h, c⟩ := hh
  refine ⟨W, F, A, m, _, G, h, fun F1 A1 v m1 H1 s1 p1 G1 q1 u r1 => ⟨W, F1, A1, m1, _, G1, q1, fun F2 A2 vs m2 H2 s2 p2 G2 q2 us r2 => ?_⟩⟩
  exact c F2 A2 (v :: vs) m2 H2 (s1.trans s2) (pre_trans p1 p2) G2 q2 (u :: us) ⟨u, us, rfl, RepV.mono s2 p2 r1, r2⟩
/-- all of them plain data -/
def onDs : List Vl → (List Dt → Prop) → Prop
  | [], k => k []
  | .d x :: r, k => onDs r fun xs => k (x :: xs)
  | .c _ :: _, _ => False
theorem onDs_elim : ∀ {vs : List Vl} {k : List Dt → Prop}, onDs vs k → ∃ xs, vs = xs.map .d ∧ k xs
  | [], _, h => ⟨[], rfl, h⟩
  | .d x :: r, k, h => by
    obtain ⟨xs, e, q⟩ := onDs_elim (vs := r) h
    exact ⟨x :: xs, by rw [e]; rfl, q⟩
  | .c _ :: _, _, h => h.elim
theorem reps_of {K : PySem.W.Frag} {F : Hp} {A : List Addr} : ∀ {xs : List Dt} {us : List V}, RepVs K F A (xs.map .d) us → Reps K F xs us
  | [], us, h => by
    have e : us = [] := h
    rw [e]
    exact .nil
  | x :: xs, us, h => by
    obtain ⟨u, r, rfl, h1, h2⟩ := h
    exact .cons h1 (reps_of h2)

/-! ### displays -/
def dTup (ts : DA) : DE := fun m Q => ts m fun vs m1 => vs.length ≤ sizeLine ∧ onDs vs fun xs => Q (.d (.tup xs)) m1
def dLst (ts : DA) : DE := fun m Q => ts m fun vs m1 => vs.length ≤ sizeLine ∧ onDs vs fun xs => Q (.d (.lst xs)) m1
/-- .. a list of one's own -/
def dLstO (ts : DA) : DE := fun m Q => ts m fun vs m1 => vs.length ≤ sizeLine ∧ onDs vs fun xs => Q (.c m1.st.length) ⟨m1.sl, m1.st ++ [.lst xs]⟩
theorem je_tup {es : List Expr} {ts : DA} {k} (h : JA X es ts) : JE X (.Tuple es k pos) (dTup ts) := by
  refine (pe_tup h).imp fun σ H Q hh => ?_
  obtain ⟨W, F, A, m, Qd, G, h, c⟩ := hh
  refine ⟨W, F, A, m, _, G, h, fun F1 A1 vs m1 H1 s1 p1 G1 q1 us r1 => ⟨by rw [← r1.length]; exact q1.1, fun p np => ?_⟩⟩
  obtain ⟨xs, rfl, q⟩ := onDs_elim q1.2
  have rs := reps_of r1
  have s2 := same_upd (o := .tup us) (G1.ext.free np)
  refine c (upd F1 p (.tup us)) A1 _ m1 _ (s1.trans s2) p1 (G1.laid np) q _ ?_
  show Rep X.K _ (.tup xs) _
  simp only [Rep]
  exact ⟨p, us, rfl, SqT.of upd_same, Reps.mono s2 rs⟩
theorem je_lst {es : List Expr} {ts : DA} (h : JA X es ts) : JE X (.List es pos) (dLst ts) := by
  refine (pe_lst h).imp fun σ H Q hh => ?_
  obtain ⟨W, F, A, m, Qd, G, h, c⟩ := hh
  refine ⟨W, F, A, m, _, G, h, fun F1 A1 vs m1 H1 s1 p1 G1 q1 us r1 => ⟨by rw [← r1.length]; exact q1.1, fun p np => ?_⟩⟩
  obtain ⟨xs, rfl, q⟩ := onDs_elim q1.2
  have rs := reps_of r1
  have s2 := same_upd (o := .lst us) (G1.ext.free np)
  refine c (upd F1 p (.lst us)) A1 _ m1 _ (s1.trans s2) p1 (G1.laid np) q _ ?_
  show Rep X.K _ (.lst xs) _
  simp only [Rep]
  exact ⟨p, us, rfl, Rd.of upd_same, Reps.mono s2 rs⟩
theorem je_lstO {es : List Expr} {ts : DA} (h : JA X es ts) : JE X (.List es pos) (dLstO ts) := by
  refine (pe_lst h).imp fun σ H Q hh => ?_
  obtain ⟨W, F, A, m, Qd, G, h, c⟩ := hh
  refine ⟨W, F, A, m, _, G, h, fun F1 A1 vs m1 H1 s1 p1 G1 q1 us r1 => ⟨by rw [← r1.length]; exact q1.1, fun p np => ?_⟩⟩
  obtain ⟨xs, rfl, q⟩ := onDs_elim q1.2
  refine c F1 (A1 ++ [p]) _ _ _ s1 (pre_trans p1 ⟨[p], rfl⟩) (G1.own np (reps_of r1)) q _ ⟨p, ?_, rfl⟩
  rw [← G1.len]
  simp

/-! ### subscripts -/
def onO {α : Type} (o : Option α) (P : α → Prop) : Prop := match o with
  | some z => P z
  | none => False
theorem onO_elim {α : Type} {o : Option α} {P : α → Prop} (h : onO o P) : ∃ z, o = some z ∧ P z := by
  cases o with
  | none => exact h.elim
  | some z => exact ⟨z, rfl, h⟩
theorem onO_mk {α : Type} {o : Option α} {P : α → Prop} {z : α} (e : o = some z) (h : P z) : onO o P := by
  rw [e]
  exact h
def rIx : DR2 := fun x y P => match x, y with
  | .lst xs, .int i => onO (atI xs i) P
  | .tup xs, .int i => onO (atI xs i) P
  | .str s, .int i => s.length ≤ sizeLine ∧ onO (atI s.cps.toList i) fun c => P (.str ⟨#[c]⟩)
  | _, _ => False
theorem atI_reps {K : PySem.W.Frag} {F : Hp} {xs : List Dt} {vs : List V} {i : Int} {z : Dt} (r : Reps K F xs vs) (h : atI xs i = some z) : ∃ v, atI vs i = some v ∧ Rep K F z v := by
  unfold atI at h ⊢
  rw [← r.length]
  cases q : ixN xs.length i with
  | none =>
    rw [q] at h
    cases h
  | some j =>
    rw [q] at h
    exact r.get (i := j) h
theorem val_ix : ValD X.K (L2.rIx X.K) rIx := by
  intro W F A m σ H x y u v P Q G rx ry q c
  have go : ∀ z w, Rep X.K F z w → P z → Q w H := fun z w rz pz => c F H z w (Same.refl _) G rz pz
  unfold rIx at q
  split at q
  · obtain ⟨a, vs, rfl, hs, rs⟩ := rx
    obtain ⟨z, e, q⟩ := onO_elim q
    obtain ⟨w, hw, rz⟩ := atI_reps rs e
    exact .inl ⟨a, vs, _, w, rfl, repB_int ry, .inl hs, hw, go z w rz q⟩
  · obtain ⟨a, vs, rfl, hs, rs⟩ := repB_tup rx
    have hs := seqT_mono G.ext hs
    obtain ⟨z, e, q⟩ := onO_elim q
    obtain ⟨w, hw, rz⟩ := atI_reps rs e
    exact .inr (.inl ⟨a, vs, _, w, rfl, repB_int ry, hs, hw, go z w rz q⟩)
  · obtain ⟨hl, q⟩ := q
    obtain ⟨z, e, q⟩ := onO_elim q
    exact .inr (.inr ⟨_, _, z, repB_str rx, repB_int ry, hl, e, go _ _ rep_str q⟩)
  · exact q.elim
theorem je_ix (ha : JE X a ta) (hb : JE X b tb) (hs : PlainIx b := by intro _ _; rfl) : JE X (.Subscript a b pos) (dOp rIx ta tb) :=
  (pe_ix ix_seq ha hb hs).imp fun _ _ _ h => lift_op val_ix h
end
end RT

set_option maxRecDepth 100000
set_option maxHeartbeats 4000000
namespace RT
open PySem PySem.Spec PyProof.Rows L2

/-! ### room, and a def's promise -/
structure GRoom (k : Nat) (A : Around) : Prop where
  room : Room k A
  gd : A.guards = some []
  dp : A.depth + 3 * k + 160 < recursionLimit
theorem GRoom.mono {j k : Nat} {A : Around} (r : GRoom k A) (h : j ≤ k) : GRoom j A := ⟨r.room.mono h, r.gd, by have := r.dp; omega⟩
theorem GRoom.deeper {k : Nat} {A : Around} (r : GRoom (k + 1) A) (env : Env) : GRoom k (A.deeper env) :=
  ⟨r.room.deeper env, r.gd, by have := r.dp; show A.depth + 1 + 3 * k + 160 < _; omega⟩
theorem GRoom.hu {k : Nat} {A : Around} (r : GRoom k A) : A.units + 64 < cLine := r.room.units
/-- what is known of the written part: no seer; the tables of the defs with generator expressions -/
structure BaseOk (K : PySem.W.Frag) (mg : Str → Option Value) (base : Heap) : Prop where
  seer : base.NoSeer
  tb : ∀ q ∈ tabsK K, GxR.TabB base mg q.1 q.2
/-- the code object of a def -/
def CodeIs (K : PySem.W.Frag) (f : Addr) (cdv : Value) : Prop := ∃ (oc : Value) (od : Option Addr) (fd : FuncData) (osl : Array (Option Value)), K.lookup f = some ⟨oc, od, .func fd, osl⟩ ∧ fd.code = cdv
/-- what a body may lean on -/
structure Amb (k : Nat) (X : Cx) : Prop where
  rm : GRoom k X.A
  py : Pyl X
  tb : ∀ q ∈ tabsK X.K, GxR.TabB X.base X.mg q.1 q.2
theorem Amb.mono {j k : Nat} {X : Cx} (r : Amb k X) (h : j ≤ k) : Amb j X := ⟨r.rm.mono h, r.py, r.tb⟩
theorem Amb.hu {k : Nat} {X : Cx} (r : Amb k X) : X.A.units + 64 < cLine := r.rm.room.units

structure Fnn (P : Program) (w : World) (K : PySem.W.Frag) (mg : Str → Option Value) (base : Heap) (CX : CXT) (k : Nat) (f : Addr) (fd : FuncData) (ps : List Str) (sp : Sp) : Prop where
  len : ∀ vs H Q E, sp vs H Q E → vs.length = ps.length
  run : ∀ (A : Around) (outer : List Env) (s : Shared) (H : Hp) (args : Args) (us : List Value) (vs : List V) (Q : VK) (E : XK), GRoom k A → Env0 P w K mg base A outer s H → BindsTo s fd args (ps.zip us) → Vals vs us → sp vs H Q E →
    codeAny (model P w) A (.call (.ref f) args) (CR CX outer P w H s Q E) s
theorem Fnn.mono {P : Program} {w : World} {K : PySem.W.Frag} {mg : Str → Option Value} {base : Heap} {CX : CXT} {j k : Nat} {f : Addr} {fd : FuncData} {ps : List Str} {sp : Sp} (F : Fnn P w K mg base CX j f fd ps sp) (h : j ≤ k) :
    Fnn P w K mg base CX k f fd ps sp := ⟨F.len, fun A outer s H args us vs Q E hr => F.run A outer s H args us vs Q E (hr.mono h)⟩
theorem Fnn.imp {P : Program} {w : World} {K : PySem.W.Frag} {mg : Str → Option Value} {base : Heap} {CX : CXT} {k : Nat} {f : Addr} {fd : FuncData} {ps : List Str} {sp sp' : Sp} (F : Fnn P w K mg base CX k f fd ps sp)
    (h : ∀ vs H Q E, sp' vs H Q E → sp vs H Q E) : Fnn P w K mg base CX k f fd ps sp' :=
  ⟨fun vs H Q E q => F.len vs H Q E (h _ _ _ _ q), fun A outer s H args us vs Q E hr he hb hv hs => F.run A outer s H args us vs Q E hr he hb hv (h _ _ _ _ hs)⟩
section
variable {X : Cx} {CX : CXT} {k : Nat} {f C : Addr} {fd : FuncData} {ps : List Str} {sp : Sp} {dvs : List V} {ds : List Value} {E : XK} {x m : Str} {p pos apos : Pos} {e o : Expr} {es : List Expr} {ta : TE} {t : TA}
theorem run_fnn {pins : List (Addr × Obj)} {σ : L2.St} {H : Hp} {s : Shared} {Q : VK} {us : List Value} {vs : List V} (F : Fnn X.prog X.w X.K X.mg X.base CX k f fd ps sp) (hr : GRoom k X.A) (hb : Binds X.K fd ps ds) (hd : Vals dvs ds) (hx : Passes CX X E)
    (I : Inv X pins σ H s) (r : Vals vs us) (h : sp (vs ++ dvs) H Q E) : wpAny (model X.prog X.w) X.A (call (.ref f) us) (EP X pins σ Q) X.xe s := by
  have r2 : Vals (vs ++ dvs) (us ++ ds) := r.append hd
  have hl : (us ++ ds).length = ps.length := by rw [← r2.length]; exact F.len _ _ _ _ h
  refine wpAny_call (codeAny_mono (F.run X.A X.stack s H ⟨us, []⟩ (us ++ ds) (vs ++ dvs) Q E hr I.env0 (hb s us I.kIn hl) r2 h) fun r s' hq => ?_)
  cases r with
  | error e => exact hx pins σ H s e s' I hq
  | ok fl =>
    cases fl with
    | ret u => exact I.after hq
    | next => exact False.elim hq
    | brk => exact False.elim hq
    | cont => exact False.elim hq
theorem pn_call (F : Fnn X.prog X.w X.K X.mg X.base CX k f fd ps sp) (hr : GRoom k X.A) (hg : Gl X x) (hm : X.mg x = some (.ref f)) (hk : PySem.W.keepIn X.K (.ref f) = true) (hb : Binds X.K fd ps ds) (hd : Vals dvs ds) (hx : Passes CX X E)
    (ha : PA X (e :: es) t) (hdb : (x == ("__debug__" : Str)) = false := by decide) (he : starEach (e :: es) X.env = (false, eval e X.env) :: starEach es X.env := by rfl) (hpl : (backTo pos (starEach es X.env)).any (·.1) = false := by rfl) :
    PE X (.Call (.Name x p) (e :: es) [] pos) (tCall sp dvs E t) := by
  refine ⟨fun pins s σ H Q I h => ?_⟩
  refine wpAny_Call_Name_kw (ld_glob I hg hm ?_ hdb)
  refine PySem.W.callWith_K (h₀ := X.base) I.ok.mod.kin hk (thn (ha.run pos pins s σ H _ I h) fun us s1 ⟨vs, H1, I1, r, q⟩ => ⟨I1.kIn, ?_⟩) he hpl
  exact run_fnn F hr hb hd hx I1 r q
theorem pn_call0 (F : Fnn X.prog X.w X.K X.mg X.base CX k f fd ps sp) (hr : GRoom k X.A) (hg : Gl X x) (hm : X.mg x = some (.ref f)) (hk : PySem.W.keepIn X.K (.ref f) = true) (hb : Binds X.K fd ps ds) (hd : Vals dvs ds) (hx : Passes CX X E)
    (hdb : (x == ("__debug__" : Str)) = false := by decide) : PE X (.Call (.Name x p) [] [] pos) (tCall sp dvs E tNil) := by
  refine ⟨fun pins s σ H Q I h => ?_⟩
  refine wpAny_Call_Name_kw (ld_glob I hg hm ?_ hdb)
  exact PySem.W.callWith_K0 I.kIn hk (run_fnn (us := []) F hr hb hd hx I .nil h)
end
/-- a def by its body; the body's context has room, and divisions of any size -/
theorem fnn_of {CX : CXT} {P : Program} {w : World} {K : PySem.W.Frag} {mg : Str → Option Value} {base : Heap} {k : Nat} {f : Addr} {name qual : Str} {params : Arguments} {body : List Stmt} {scope : Scope} {dV kV doc pm cdv ct oc : Value} {an od : Option Addr}
    {osl : Array (Option Value)} {N ps : List Str} {sp : Sp} (hns : BaseOk K mg base) (htr : P.given.tree = none) (lk : K.lookup f = some ⟨oc, od, .func (PySem.W.fnOf name qual params body scope dV kV doc pm an cdv ct), osl⟩) (hcd : PySem.W.codeIn K cdv qual = true) (S : FnScope N ps scope)
    (len : ∀ vs H Q E, sp vs H Q E → vs.length = ps.length)
    (hbody : ∀ (A : Around) (outer : List Env) (s : Shared) (H : Hp) (vs : List V) (Q : VK) (E : XK), Amb k (cxOf CX P w K mg base N qual scope f cdv A outer s H E) → sp vs H Q E →
      ∃ t, PSs (cxOf CX P w K mg base N qual scope f cdv A outer s H E) body t ∧ t { nx := fun _ H' => Q .non H', rt := Q } (L2.start N vs) H) :
    Fnn P w K mg base CX (k + 1) f (PySem.W.fnOf name qual params body scope dV kV doc pm an cdv ct) ps sp := by
  refine ⟨len, fun A outer s H args us vs Q E hr e0 hb r hsp => ?_⟩
  have hl := len _ _ _ _ hsp
  have KX : K.In s.heap := e0.mod.kin.keeps fun b o e => (e0.bs b o e).1
  have lim : s.heap.NoLimit := e0.mod.nolimit.keeps fun b o e => (e0.bs b o e).1
  have hkind : ∀ y ∈ ps.zip us, scope.names.lookup y.1 = some .local ∨ (scope.names.lookup y.1 = some .cell ∧ ((cellsFrom (s.heap.objs.size + 1) scope.names []).lookup y.1).isSome = true) := fun ⟨n, v⟩ hy => by
    rcases S.par n (List.of_mem_zip hy).1 with q | q
    · exact .inl q
    · exact .inr ⟨q, PySem.W.cellsFrom_some _ _ _ (.inl q)⟩
  refine codeAny_call_function hr.room.depth (KX _ _ lk) rfl S.co S.gen rfl (PySem.W.codeRec_of KX hcd) (hb _ _ _ _ ?_)
  refine wpAny_newFunctionEnv_cells S.kind hkind fun env he s1 x => ?_
  subst he
  refine ⟨lim.keeps x.toInCall.keep, codeAny_func ?_⟩
  have amb : Amb k (cxOf CX P w K mg base N qual scope f cdv A outer s H E) := ⟨hr.deeper _, fun s' ks =>
    PySem.PylongRoom.of (e0.mod.nolimit.keeps ks) (by have := hr.dp; show A.depth + 1 + Builtin.pylongFrames < recursionLimit; have e : Builtin.pylongFrames = 100 := rfl; omega)
      (PySem.SeerAt.of (hns.seer.keeps ks) htr (PySem.Around.frames_deeper e0.frames) S.gen S.co rfl rfl), hns.tb⟩
  obtain ⟨t, ht, hq⟩ := hbody A outer s H vs Q E amb hsp
  have I : Inv (cxOf CX P w K mg base N qual scope f cdv A outer s H E) [] (L2.start N vs) H s1 := inv_start S hr.room.hd e0 hl r x
  refine wpAny_mono (ht.run [] s1 (L2.start N vs) H _ I hq) (fun fl s' hs => ?_) fun e s' hs => hs
  have fin : ∀ {σ' : L2.St} {H' : Hp} {v : V} {u : Value}, Inv (cxOf CX P w K mg base N qual scope f cdv A outer s H E) [] σ' H' s' → RelV v u → Q v H' → CE outer P w H s Q u s' :=
    fun {σ' H' v u} J rv q => ⟨v, H', J.os, J.bare, J.base, J.hok, rv, q⟩
  cases fl with
  | ret u =>
    obtain ⟨v, σ', H', J, rv, q⟩ := hs
    exact fin J rv q
  | next =>
    obtain ⟨σ', H', J, q⟩ := hs
    exact fin (v := V.non) (u := Value.none) J rfl q
  | brk =>
    obtain ⟨_, _, _, q⟩ := hs
    exact False.elim q
  | cont =>
    obtain ⟨_, _, _, q⟩ := hs
    exact False.elim q

/-! ### promises over plain data -/
abbrev FSpec := List Vl → List Cell → (Vl → List Cell → Prop) → Prop
def liftSp (K : PySem.W.Frag) (sp : FSpec) : Sp := fun vs H Q _ => ∃ W F A st args Qd, Good K W F A ⟨[], st⟩ [] H ∧ RepVs K F A args vs ∧ sp args st Qd ∧
  ∀ F' A' st' H' r u, Same F F' → A <+: A' → Good K W F' A' ⟨[], st'⟩ [] H' → RepV K F' A' r u → Qd r st' → Q u H'
section
variable {K : PySem.W.Frag} {W F F' : Hp} {A A' : List Addr} {m : M} {σ : L2.St} {H H' : Hp}
theorem Good.bare (G : Good K W F A m σ H) : Good K W F A ⟨[], m.st⟩ [] H := ⟨G.ext, G.hid, G.dj, rfl, fun i v e => by simp at e, G.len, G.st, G.nd, G.tb⟩
theorem Good.back {st' : List Cell} (G : Good K W F A m σ H) (s : Same F F') (p : A <+: A') (G' : Good K W F' A' ⟨[], st'⟩ [] H') : Good K W F' A' ⟨m.sl, st'⟩ σ H' :=
  ⟨G'.ext, G'.hid, G'.dj, G.slen, fun i v e => let ⟨u, h1, h2⟩ := G.sl i v e; ⟨u, h1, RepV.mono s p h2⟩, G'.len, G'.st, G'.nd, G'.tb⟩
theorem Good.take (G : Good K W F A m σ H) (n : Nat) : Good K W F (A.take n) ⟨[], m.st.take n⟩ [] H := by
  have q : ∀ k c, (m.st.take n)[k]? = some c → k < n ∧ m.st[k]? = some c := fun k c e => by
    rw [List.getElem?_take] at e
    by_cases hk : k < n
    · rw [if_pos hk] at e
      exact ⟨hk, e⟩
    · rw [if_neg hk] at e
      cases e
  have ra : ∀ k, k < n → (A.take n)[k]? = A[k]? := fun k hk => by rw [List.getElem?_take, if_pos hk]
  refine ⟨G.ext, G.hid, G.dj, rfl, fun i v e => by simp at e, by simp [G.len], fun k xs e => ?_, fun j k xs ys a e1 e2 h1 h2 => ?_, G.tb⟩
  · obtain ⟨hk, e'⟩ := q k _ e
    obtain ⟨a, vs, p1, p2⟩ := G.st k xs e'
    exact ⟨a, vs, (ra k hk).trans p1, p2⟩
  · obtain ⟨hj, e1'⟩ := q j _ e1
    obtain ⟨hk, e2'⟩ := q k _ e2
    exact G.nd j k xs ys a e1' e2' ((ra j hj).symm.trans h1) ((ra k hk).symm.trans h2)
theorem repVs_slots {args : List Vl} {vs : List V} (r : RepVs K F A args vs) (n : Nat) : ∀ (i : Nat) (v : Vl), (args.map some ++ List.replicate n none)[i]? = some (some v) → ∃ u : V, (vs.map some ++ List.replicate n (none : Option V))[i]? = some (some u) ∧ RepV K F A v u := by
  induction args generalizing vs with
  | nil =>
    intro i v e
    simp only [List.map_nil, List.nil_append, List.getElem?_replicate] at e
    split at e <;> cases e
  | cons a r' ih =>
    obtain ⟨u, us, rfl, h1, h2⟩ := r
    intro i v e
    cases i with
    | zero =>
      cases e
      exact ⟨u, rfl, h1⟩
    | succ j => exact ih h2 j v e
/-- what is handed back: plain data, a list that was handed in, or a new one (plain from here on, or the caller's own) -/
def retD (kp : Bool) (n : Nat) (Qd : Vl → List Cell → Prop) : Vl → M → Prop := fun v m => match v with
  | .d x => Qd (.d x) (m.st.take n)
  | .c k => if k < n then Qd (.c k) (m.st.take n) else onC m.st k fun xs => if kp = true then Qd (.c n) (m.st.take n ++ [.lst xs]) else Qd (.d (.lst xs)) (m.st.take n)
def endsOf (kp : Bool) (n : Nat) (Qd : Vl → List Cell → Prop) : DEnds := ⟨retD kp n Qd (.d .non), retD kp n Qd, fun _ => False, fun _ => False⟩
def startM (N : Nat) (args : List Vl) (st : List Cell) : M := ⟨args.map some ++ List.replicate (N - args.length) none, st⟩
theorem pre_take {A0 A' : List Addr} (p : A0 <+: A') : A'.take A0.length = A0 := by
  obtain ⟨t, rfl⟩ := p
  simp
theorem retD_ok {kp : Bool} {A0 : List Addr} {F0 : Hp} {n : Nat} {Qd : Vl → List Cell → Prop} {Q : VK} {v : Vl} {u : V} (hn : A0.length = n) (sF : Same F0 F) (p : A0 <+: A) (G : Good K W F A m σ H) (r : RepV K F A v u) (q : retD kp n Qd v m)
    (c : ∀ F' A' st' H' r u, Same F0 F' → A0 <+: A' → Good K W F' A' ⟨[], st'⟩ [] H' → RepV K F' A' r u → Qd r st' → Q u H') : Q u H := by
  have eA : A.take n = A0 := by rw [← hn]; exact pre_take p
  have G1 := G.take n
  rw [eA] at G1
  cases v with
  | d x => exact c F A0 _ H (.d x) u sF (pre_refl _) G1 r q
  | c k =>
    obtain ⟨a, ha, rfl⟩ := r
    have q' : if k < n then Qd (.c k) (m.st.take n) else onC m.st k fun xs => if kp = true then Qd (.c n) (m.st.take n ++ [.lst xs]) else Qd (.d (.lst xs)) (m.st.take n) := q
    by_cases hk : k < n
    · rw [if_pos hk] at q'
      refine c F A0 _ H (.c k) _ sF (pre_refl _) G1 ⟨a, ?_, rfl⟩ q'
      rw [← eA, List.getElem?_take, if_pos hk]
      exact ha
    · rw [if_neg hk] at q'
      obtain ⟨xs, e, q'⟩ := onC_elim q'
      · obtain ⟨a', vs, h1, h2, h3, h4, h5⟩ := G.st k xs e
        rw [ha] at h1
        cases h1
        have old : ∀ (j : Nat) (ys : List Dt) (b : Addr), (m.st.take n)[j]? = some (Cell.lst ys) → A0[j]? = some b → b ≠ a := fun j ys b e1 e2 z => by
          rw [List.getElem?_take] at e1
          by_cases hj : j < n
          · rw [if_pos hj] at e1
            have e3 : A[j]? = some b := by
              rw [← eA, List.getElem?_take, if_pos hj] at e2
              exact e2
            have := G.nd j k ys xs a e1 e (by rw [← z]; exact e3) ha
            omega
          · rw [if_neg hj] at e1
            cases e1
        have nlen : (m.st.take n).length = n := by rw [← G1.len]; exact hn
        split at q'
        · -- the caller's own
          refine c F (A0 ++ [a]) _ H (.c n) _ sF ⟨[a], rfl⟩ ?_ ⟨a, ?_, rfl⟩ q'
          · have sp : ∀ j c, (m.st.take n ++ [Cell.lst xs])[j]? = some c → (j < n ∧ (m.st.take n)[j]? = some c) ∨ (j = n ∧ c = .lst xs) := fun j c e => by
              by_cases hj : j < n
              · exact .inl ⟨hj, by rw [List.getElem?_append_left (by rw [nlen]; exact hj)] at e; exact e⟩
              · have hl := (List.getElem?_eq_some_iff.mp e).1
                rw [List.length_append, nlen, List.length_singleton] at hl
                have ej : j = n := by omega
                subst ej
                rw [List.getElem?_append_right (by rw [nlen]; exact Nat.le_refl _), nlen, Nat.sub_self] at e
                exact .inr ⟨rfl, (Option.some.inj e).symm⟩
            have aold : ∀ j, j < n → (A0 ++ [a])[j]? = A0[j]? := fun j hj => List.getElem?_append_left (by rw [hn]; exact hj)
            have anew : (A0 ++ [a])[n]? = some a := by rw [← hn]; simp
            refine ⟨G.ext, G.hid, G.dj, rfl, fun i v e => by simp at e, by rw [List.length_append, List.length_append, nlen, hn]; rfl, fun j ys e => ?_, fun i j ys zs b e1 e2 p1 p2 => ?_, G.tb⟩
            · rcases sp j _ e with ⟨hj, e'⟩ | ⟨rfl, ec⟩
              · obtain ⟨b, ws, q1, q2⟩ := G1.st j ys e'
                exact ⟨b, ws, (aold j hj).trans q1, q2⟩
              · cases ec
                exact ⟨a, vs, anew, h2, h3, h4, h5⟩
            · rcases sp i _ e1 with ⟨hi, e1'⟩ | ⟨rfl, _⟩
              · rcases sp j _ e2 with ⟨hj, e2'⟩ | ⟨rfl, _⟩
                · exact G1.nd i j ys zs b e1' e2' ((aold i hi).symm.trans p1) ((aold j hj).symm.trans p2)
                · rw [anew] at p2
                  cases p2
                  exact (old i ys _ e1' ((aold i hi).symm.trans p1) rfl).elim
              · rcases sp j _ e2 with ⟨hj, e2'⟩ | ⟨rfl, _⟩
                · rw [anew] at p1
                  cases p1
                  exact (old j zs _ e2' ((aold j hj).symm.trans p2) rfl).elim
                · rfl
          · rw [← hn]
            simp
        · -- plain data
          have s2 : Same F (upd F a (.lst vs)) := same_upd h4
          refine c (upd F a (.lst vs)) A0 _ H (.d (.lst xs)) _ (sF.trans s2) (pre_refl _) ⟨fun b x z => ?_, G.hid, fun b x z => by rw [upd_ne (fun y => by rw [y, h5] at z; cases z)]; exact G.dj b x z, rfl, fun i v e => by simp at e, G1.len, fun j ys e' => ?_, G1.nd, fun q hq => ⟨(G.tb q hq).1, by rw [upd_ne (tab_ne (G.tb q hq).1 h2)]; exact (G.tb q hq).2.1, (G.tb q hq).2.2⟩⟩ ?_ q'
          · by_cases hb : b = a
            · subst hb
              rw [upd_same] at z
              cases z
              exact h2
            · rw [upd_ne hb] at z
              exact G.ext _ _ z
          · obtain ⟨b, ws, q1, q2, q3, q4⟩ := G1.st j ys e'
            exact ⟨b, ws, q1, q2, Reps.mono s2 q3, by rw [upd_ne (old j ys b e' q1)]; exact q4.1, q4.2⟩
          · show Rep K _ (.lst xs) _
            simp only [Rep]
            exact ⟨a, vs, rfl, Rd.of upd_same, Reps.mono s2 h3⟩
end
/-- THE RULE for a def over plain data -/
theorem fn_dt {P : Program} {w : World} {K : PySem.W.Frag} {mg : Str → Option Value} {base : Heap} {x qual : Str} {st : Stmt} {f : Addr} {fd : FuncData} {N ps : List Str} {k : Nat} {sp : FSpec} {b : DS} (kp : Bool) (hns : BaseOk K mg base) (htr : P.given.tree = none)
    (F : Fun K x qual st f fd) (S : FnScope N ps (defScope st))
    (hd : ∀ (X : Cx) (cdv : Value) (A : Around) (outer : List Env) (s : Shared) (H : Hp) (E : XK), X = (cxOf CX0 P w K mg base N qual (defScope st) f cdv A outer s H E).nox → Amb k X → JSs X (defBody st) b)
    (hsp : ∀ args st0 Qd, sp args st0 Qd → args.length = ps.length ∧ b (endsOf kp st0.length Qd) (startM N.length args st0)) : Fnn P w K mg base CX0 (k + 1) f fd ps (liftSp K sp) := by
  obtain ⟨oc, od, kV, doc, pm, an, cdv, ct, osl, rfl, lk, hcd⟩ := F.ex
  refine fnn_of hns htr lk hcd S (fun vs H Q E h => ?_) fun A outer s H vs Q E amb h => ?_
  · obtain ⟨W, F1, A1, st1, args, Qd, G, r, q, c⟩ := h
    rw [← r.length]
    exact (hsp _ _ _ q).1
  · obtain ⟨W, F1, A1, st1, args, Qd, G, r, q, c⟩ := h
    have h1 := hd (cxOf CX0 P w K mg base N qual (defScope st) f cdv A outer s H E).nox cdv A outer s H E rfl ⟨amb.rm, amb.py, amb.tb⟩
    refine ⟨_, PSs.nox h1, ?_⟩
    have hl := r.length
    refine ⟨W, F1, A1, startM N.length args st1, endsOf kp st1.length Qd, ⟨G.ext, G.hid, G.dj, ?_, ?_, G.len, G.st, G.nd, G.tb⟩, (hsp _ _ _ q).2, ⟨?_, ?_, ?_, ?_⟩⟩
    · unfold startM L2.start
      simp [hl]
    · intro i v e
      unfold startM at e
      unfold L2.start
      rw [← hl]
      exact repVs_slots r _ i v e
    · intro F' A' m' σ' H' s' p' G' q'
      exact retD_ok (kp := kp) (v := .d .non) (u := .non) G.len s' p' G' rv_non q' c
    · intro F' A' m' σ' H' v u s' p' G' r' q'
      exact retD_ok (kp := kp) G.len s' p' G' r' q' c
    · intro F' A' m' σ' H' _ _ _ q'
      exact q'
    · intro F' A' m' σ' H' _ _ _ q'
      exact q'

/-! ### calls -/
def dCall (sp : FSpec) (dargs : List Vl) (ts : DA) : DE := fun m Q => ts m fun vs m1 => sp (vs ++ dargs) m1.st fun r st' => Q r ⟨m1.sl, st'⟩
theorem repVs_app {K : PySem.W.Frag} {F : Hp} {A : List Addr} : ∀ {x y : List Vl} {u v : List V}, RepVs K F A x u → RepVs K F A y v → RepVs K F A (x ++ y) (u ++ v)
  | [], y, u, v, h, h' => by
    have e : u = [] := h
    rw [e]
    exact h'
  | a :: x, y, u, v, h, h' => by
    obtain ⟨u0, r, rfl, h1, h2⟩ := h
    exact ⟨u0, r ++ v, rfl, h1, repVs_app h2 h'⟩
theorem lift_call {K : PySem.W.Frag} {sp : FSpec} {dargs : List Vl} {dvs : List V} {ts : DA} {E : XK} (hd : ∀ F A, RepVs K F A dargs dvs) {σ : L2.St} {H : Hp} {Q : VK} (h : lift K (dCall sp dargs ts) σ H Q) : tCall (liftSp K sp) dvs E (liftA K ts) σ H Q := by
  obtain ⟨W, F, A, m, Qd, G, h, c⟩ := h
  refine ⟨W, F, A, m, _, G, h, fun F1 A1 vs m1 H1 s1 p1 G1 q1 us r1 => ⟨W, F1, A1, m1.st, vs ++ dargs, _, G1.bare, repVs_app r1 (hd F1 A1), q1, fun F2 A2 st2 H2 r u s2 p2 G2 r2 q2 => ?_⟩⟩
  exact c F2 A2 r _ H2 (s1.trans s2) (pre_trans p1 p2) (G1.back s2 p2 G2) q2 u r2
/-- where a def of the text stands, and its promise -/
structure FnAt (X : Cx) (x : Str) (k : Nat) (sp : FSpec) (dargs : List Vl) : Prop where
  nd : (x == ("__debug__" : Str)) = false
  ex : ∃ (f : Addr) (fd : FuncData) (ps : List Str) (ds : List Value) (dvs : List V), Fnn X.prog X.w X.K X.mg X.base CX0 k f fd ps (liftSp X.K sp) ∧ X.mg x = some (.ref f) ∧ PySem.W.keepIn X.K (.ref f) = true ∧ Binds X.K fd ps ds ∧ Vals dvs ds ∧ ∀ F A, RepVs X.K F A dargs dvs
section
variable {X : Cx} {k : Nat} {x : Str} {p pos : Pos} {e : Expr} {es : List Expr} {ts : DA} {sp : FSpec} {dargs : List Vl}
theorem je_call (F : FnAt X x k sp dargs) (hr : GRoom k X.A) (hg : Gl X x) (ha : JA X (e :: es) ts) (he : starEach (e :: es) X.env = (false, eval e X.env) :: starEach es X.env := by rfl) (hpl : (backTo pos (starEach es X.env)).any (·.1) = false := by rfl) :
    JE X (.Call (.Name x p) (e :: es) [] pos) (dCall sp dargs ts) := by
  obtain ⟨nd, f, fd, ps, ds, dvs, F, hm, hk, hb, hd, hda⟩ := F
  exact (pn_call F hr hg hm hk hb hd pass0 ha nd he hpl).imp fun _ _ _ h => lift_call hda h
theorem je_call0 (F : FnAt X x k sp dargs) (hr : GRoom k X.A) (hg : Gl X x) : JE X (.Call (.Name x p) [] [] pos) (dCall sp dargs dNil) := by
  obtain ⟨nd, f, fd, ps, ds, dvs, F, hm, hk, hb, hd, hda⟩ := F
  refine (pn_call0 F hr hg hm hk hb hd pass0 nd).imp fun σ H Q h => ?_
  obtain ⟨W, F, A, m, Qd, G, h, c⟩ := h
  have h' : sp ([] ++ dargs) m.st fun r st' => Qd r ⟨m.sl, st'⟩ := h
  refine ⟨W, F, A, m.st, [] ++ dargs, _, G.bare, by exact hda F A, h', fun F2 A2 st2 H2 r u s2 p2 G2 r2 q2 => ?_⟩
  exact c F2 A2 r _ H2 s2 p2 (G.back s2 p2 G2) q2 u r2
end
end RT

set_option maxRecDepth 100000
set_option maxHeartbeats 4000000
namespace RT
open PySem PySem.Spec PyProof.Rows L2

/-! ### targets -/
inductive Tgt where
  | nm (i : Nat) | tp (is : List Nat)
def gNames : List Nat → TGs
  | [] => gNil
  | i :: r => gCons (gName i) (gNames r)
def tgH (K : PySem.W.Frag) : Tgt → TG
  | .nm i => gName i
  | .tp is => gTup K is.length (gNames is)
/-- the names at is are stored, from the left -/
def setsD : List Nat → List Dt → List (Option Vl) → List (Option Vl)
  | i :: is, x :: xs, sl => setsD is xs (sl.set i (some (.d x)))
  | _, _, sl => sl
def setsV : List Nat → List V → L2.St → L2.St
  | i :: is, x :: xs, σ => setsV is xs (σ.set i (some x))
  | _, _, σ => σ
def tgD : Tgt → Vl → M → (M → Prop) → Prop
  | .nm i, v, m, Q => Q ⟨m.sl.set i (some v), m.st⟩
  | .tp is, v, m, Q => match v with
    | .d (.tup xs) => xs.length = is.length ∧ Q ⟨setsD is xs m.sl, m.st⟩
    | _ => False
def tgSlots : Tgt → List Nat
  | .nm i => [i]
  | .tp is => is
section
variable {K : PySem.W.Frag} {W F F' : Hp} {A A' : List Addr} {m : M} {σ : L2.St} {H H' : Hp}
theorem Good.sets : ∀ {is : List Nat} {xs : List Dt} {vs : List V} {m : M} {σ : L2.St}, Good K W F A m σ H → Reps K F xs vs → Good K W F A ⟨setsD is xs m.sl, m.st⟩ (setsV is vs σ) H
  | [], _, _, _, _, G, _ => by
    unfold setsD setsV
    exact G
  | i :: is, [], vs, m, σ, G, r => by
    have e : vs = [] := by simpa only [Reps] using r
    rw [e]
    exact G
  | i :: is, x :: xs, vs, m, σ, G, r => by
    have e : ∃ v r', vs = v :: r' ∧ Rep K F x v ∧ Reps K F xs r' := by simpa only [Reps] using r
    obtain ⟨v, r', rfl, h1, h2⟩ := e
    have G1 := G.store (i := i) (v := .d x) (u := v) h1
    exact Good.sets (is := is) G1 h2
theorem gNames_ok {Q : L2.St → Hp → Prop} : ∀ {is : List Nat} {vs : List V} {σ : L2.St}, vs.length = is.length → Q (setsV is vs σ) H → gNames is vs σ H Q
  | [], [], _, _, q => ⟨rfl, q⟩
  | i :: is, v :: vs, σ, hl, q => ⟨v, vs, rfl, gNames_ok (is := is) (by simpa using hl) q⟩
  | [], _ :: _, _, hl, _ => by simp at hl
  | _ :: _, [], _, hl, _ => by simp at hl
/-- a target over plain data: the heap stays, slots of the target alone are stored -/
theorem tg_ok {t : Tgt} {v : Vl} {u : V} {Qd : M → Prop} {Q : L2.St → Hp → Prop} (G : Good K W F A m σ H) (r : RepV K F A v u) (q : tgD t v m Qd)
    (c : ∀ m' σ', Good K W F A m' σ' H → (∀ vs : List Nat, (∀ i ∈ tgSlots t, i ∈ vs) → wipe σ' vs = wipe σ vs) → Qd m' → Q σ' H) : tgH K t u σ H Q := by
  have w1 : ∀ (vs : List Nat) (i : Nat) (o : Option V) (σ : L2.St), i ∈ vs → wipe (σ.set i o) vs = wipe σ vs := by
    intro vs
    induction vs with
    | nil =>
      intro i o σ h
      cases h
    | cons v vs ih =>
      intro i o σ h
      unfold wipe
      by_cases hv : v = i
      · subst hv
        by_cases hm : v ∈ vs
        · rw [ih v o σ hm]
        · have w2 : ∀ (vs : List Nat) (σ : L2.St), v ∉ vs → (wipe (σ.set v o) vs) = (wipe σ vs).set v o := by
            intro vs
            induction vs with
            | nil =>
              intro σ _
              rfl
            | cons z vs ih =>
              intro σ hz
              unfold wipe
              rw [ih σ (fun q => hz (List.mem_cons_of_mem _ q)), List.set_comm]
              intro e
              exact hz (by rw [e]; exact List.mem_cons_self)
          rw [w2 vs σ hm, List.set_set]
      · have hm : i ∈ vs := by
          rcases List.mem_cons.mp h with z | z
          · exact absurd z.symm hv
          · exact z
        rw [ih i o σ hm]
  cases t with
  | nm i => exact c _ _ (G.store r) (fun vs hv => w1 vs i _ σ (hv i (by unfold tgSlots; exact List.mem_singleton.mpr rfl))) q
  | tp is =>
    cases v with
    | c k => exact (show False from q).elim
    | d x =>
      cases x with
      | tup xs =>
        obtain ⟨hl, q⟩ : xs.length = is.length ∧ Qd ⟨setsD is xs m.sl, m.st⟩ := q
        have r' : Rep K F (.tup xs) u := r
        simp only [Rep] at r'
        obtain ⟨a, vs, rfl, hs, rs⟩ := r'
        have hlv : vs.length = is.length := by rw [← rs.length]; exact hl
        refine ⟨a, vs, rfl, seqT_mono G.ext hs, hlv, gNames_ok hlv (c _ _ (G.sets rs) (fun ws hw => ?_) q)⟩
        have go : ∀ (is : List Nat) (vs : List V) (σ : L2.St), (∀ i ∈ is, i ∈ ws) → wipe (setsV is vs σ) ws = wipe σ ws := by
          intro is
          induction is with
          | nil =>
            intro vs σ _
            cases vs <;> rfl
          | cons i is ih =>
            intro vs σ hi
            cases vs with
            | nil => rfl
            | cons v vs =>
              show wipe (setsV is vs (σ.set i (some v))) ws = wipe σ ws
              rw [ih vs _ (fun j hj => hi j (List.mem_cons_of_mem _ hj)), w1 ws i _ σ (hi i List.mem_cons_self)]
        exact go is vs σ hw
      | _ => exact (show False from q).elim
end
section
variable {X : Cx}
theorem jg_of {e : Expr} {t : Tgt} {g : TG} (h : PG X e g) (e1 : g = tgH X.K t := by rfl) : PG X e (tgH X.K t) := e1 ▸ h
end

/-! ### what is walked -/
def lockOk (lk : Option Nat) (xs : List Dt) (m : M) : Prop := match lk with
  | none => True
  | some k => m.st[k]? = some (.lst xs)
abbrev DI := M → (List Dt → Option Nat → M → Prop) → Prop
structure Walks (K : PySem.W.Frag) (J : It) (F : Hp) (A : List Addr) (xs : List Dt) (lk : Option Nat) : Prop where
  go : ∀ W F' A' m σ H i x, Same F F' → A <+: A' → Good K W F' A' m σ H → lockOk lk xs m → xs[i]? = some x → J.go i H ∧ ∀ v H', J.yld i H v H' → ∃ F2, Same F' F2 ∧ Good K W F2 A' m σ H' ∧ Rep K F2 x v
  stop : ∀ W F' A' m σ H, Same F F' → A <+: A' → Good K W F' A' m σ H → lockOk lk xs m → J.stop xs.length H
def liftI (K : PySem.W.Frag) (t : DI) : TI := fun σ H R => ∃ W F A m Qd, Good K W F A m σ H ∧ t m Qd ∧
  ∀ F' A' xs lk m' H', Same F F' → A <+: A' → Good K W F' A' m' σ H' → Qd xs lk m' → ∀ J, Walks K J F' A' xs lk → R J H'
abbrev JI (X : Cx) (tg iter : Expr) (t : DI) : Prop := PI X tg iter (liftI X.K t)
theorem _root_.L2.PI.imp {X : Cx} {tg e : Expr} {t t' : TI} (h : PI X tg e t) (f : ∀ σ H Q, t' σ H Q → t σ H Q) : PI X tg e t' := ⟨fun pins s σ H Q I q => h.run pins s σ H Q I (f _ _ _ q)⟩
/-- over a list, plain or one's own -/
def dList (t : DE) : DI := fun m Q => t m fun v m1 => match v with
  | .d (.lst xs) => Q xs none m1
  | .c k => onC m1.st k fun xs => Q xs (some k) m1
  | _ => False
def dTupI (t : DE) : DI := fun m Q => t m fun v m1 => match v with
  | .d (.tup xs) => Q xs none m1
  | _ => False
section
variable {K : PySem.W.Frag}
theorem walks_list {F : Hp} {A : List Addr} {a : Addr} {vs : List V} {xs : List Dt} (s : SqL K F a vs) (r : Reps K F xs vs) : Walks K (Itl K a) F A xs none where
  go := fun W F' A' m σ H i x sF p G _ hi => by
    obtain ⟨v, hv, rv⟩ := r.get hi
    have sq : SqL K H a vs := (sF.trans G.ext).seq s
    refine ⟨⟨vs, v, sq, hv⟩, fun u H' y => ?_⟩
    obtain ⟨rfl, y⟩ := y
    have e := (y vs sq).symm.trans hv
    cases e
    exact ⟨F', Same.refl _, G, Rep.mono sF rv⟩
  stop := fun W F' A' m σ H sF p G _ => ⟨vs, (sF.trans G.ext).seq s, by rw [r.length]; exact Nat.le_refl _⟩
theorem walks_tup {F : Hp} {A : List Addr} {a : Addr} {vs : List V} {xs : List Dt} (s : SqT K F a vs) (r : Reps K F xs vs) : Walks K (Itt K a) F A xs none where
  go := fun W F' A' m σ H i x sF p G _ hi => by
    obtain ⟨v, hv, rv⟩ := r.get hi
    have sq : SqT K H a vs := seqT_mono (sF.trans G.ext) s
    refine ⟨⟨vs, v, sq, hv⟩, fun u H' y => ?_⟩
    obtain ⟨rfl, y⟩ := y
    have e := (y vs sq).symm.trans hv
    cases e
    exact ⟨F', Same.refl _, G, Rep.mono sF rv⟩
  stop := fun W F' A' m σ H sF p G _ => ⟨vs, seqT_mono (sF.trans G.ext) s, by rw [r.length]; exact Nat.le_refl _⟩
theorem walks_own {F : Hp} {A : List Addr} {a : Addr} {k : Nat} {xs : List Dt} (ha : A[k]? = some a) : Walks K (Itl K a) F A xs (some k) := by
  have at_ : ∀ {W F' A' m σ H}, A <+: A' → Good K W F' A' m σ H → lockOk (some k) xs m → ∃ vs, H a = some (.lst vs) ∧ Reps K F' xs vs := fun {W F' A' m σ H} p G l => by
    obtain ⟨a', vs, h1, h2, h3, _⟩ := G.st k xs l
    obtain ⟨t, rfl⟩ := p
    have hk := (List.getElem?_eq_some_iff.mp ha).1
    rw [List.getElem?_append_left hk, ha] at h1
    cases h1
    exact ⟨vs, h2, h3⟩
  refine ⟨fun W F' A' m σ H i x sF p G l hi => ?_, fun W F' A' m σ H sF p G l => ?_⟩
  · obtain ⟨vs, h2, r⟩ := at_ p G l
    obtain ⟨v, hv, rv⟩ := r.get hi
    refine ⟨⟨vs, v, SqL.of h2, hv⟩, fun u H' y => ?_⟩
    obtain ⟨rfl, y⟩ := y
    have e := (y vs (SqL.of h2)).symm.trans hv
    cases e
    exact ⟨F', Same.refl _, G, rv⟩
  · obtain ⟨vs, h2, r⟩ := at_ p G l
    exact ⟨vs, SqL.of h2, by rw [r.length]; exact Nat.le_refl _⟩
end

section
variable {X : Cx} {tg l : Expr} {t : DE}
theorem ji_list (hl : JE X l t) : JI X tg l (dList t) := by
  refine (pi_list hl).imp fun σ H R hh => ?_
  obtain ⟨W, F, A, m, Qd, G, h, c⟩ := hh
  refine ⟨W, F, A, m, _, G, h, fun F1 A1 v m1 H1 s1 p1 G1 q1 u r1 => ?_⟩
  split at q1
  · rename_i xs
    have r' : Rep X.K F1 (.lst xs) u := r1
    simp only [Rep] at r'
    obtain ⟨a, vs, rfl, hs, rs⟩ := r'
    exact ⟨a, rfl, ⟨vs, .inl (rd_mono G1.ext hs)⟩, c F1 A1 xs none m1 H1 s1 p1 G1 q1 _ (walks_list (.inl hs) rs)⟩
  · rename_i k
    obtain ⟨xs, e, q1⟩ := onC_elim q1
    obtain ⟨a, ha, rfl⟩ := r1
    obtain ⟨a', vs, h1, h2, h3, _⟩ := G1.st k xs e
    rw [ha] at h1
    cases h1
    exact ⟨a, rfl, ⟨vs, SqL.of h2⟩, c F1 A1 xs (some k) m1 H1 s1 p1 G1 q1 _ (walks_own ha)⟩
  · exact q1.elim
theorem ji_tup (hl : JE X l t) : JI X tg l (dTupI t) := by
  refine (pi_tup hl).imp fun σ H R hh => ?_
  obtain ⟨W, F, A, m, Qd, G, h, c⟩ := hh
  refine ⟨W, F, A, m, _, G, h, fun F1 A1 v m1 H1 s1 p1 G1 q1 u r1 => ?_⟩
  split at q1
  · rename_i xs
    have r' : Rep X.K F1 (.tup xs) u := r1
    simp only [Rep] at r'
    obtain ⟨a, vs, rfl, hs, rs⟩ := r'
    exact ⟨a, rfl, ⟨vs, seqT_mono G1.ext hs⟩, c F1 A1 xs none m1 H1 s1 p1 G1 q1 _ (walks_tup hs rs)⟩
  · exact q1.elim
/-- lo, lo + 1, .. n of them -/
def rangeD (lo : Int) : Nat → List Dt
  | 0 => []
  | n + 1 => .int lo :: rangeD (lo + 1) n
theorem rangeD_len : ∀ (n : Nat) (lo : Int), (rangeD lo n).length = n
  | 0, _ => rfl
  | n + 1, lo => by
    unfold rangeD
    rw [List.length_cons, rangeD_len n]
theorem rangeD_get : ∀ (n : Nat) (lo : Int) (i : Nat) (x : Dt), (rangeD lo n)[i]? = some x → i < n ∧ x = .int (lo + i)
  | 0, _, i, x, h => by
    unfold rangeD at h
    simp at h
  | n + 1, lo, 0, x, h => by
    unfold rangeD at h
    have e : Dt.int lo = x := Option.some.inj h
    refine ⟨Nat.succ_pos _, ?_⟩
    rw [← e]
    congr 1
    simp
  | n + 1, lo, i + 1, x, h => by
    unfold rangeD at h
    obtain ⟨h1, h2⟩ := rangeD_get n (lo + 1) i x h
    refine ⟨by omega, ?_⟩
    rw [h2]
    congr 1
    omega
theorem walks_range {K : PySem.W.Frag} {F : Hp} {A : List Addr} (lo : Int) (n : Nat) : Walks K (Itr lo n) F A (rangeD lo n) none where
  go := fun W F' A' m σ H i x sF p G _ hi => by
    obtain ⟨h1, rfl⟩ := rangeD_get n lo i x hi
    refine ⟨h1, fun u H' y => ?_⟩
    obtain ⟨rfl, rfl⟩ := y
    exact ⟨F', Same.refl _, G, rep_int⟩
  stop := fun W F' A' m σ H sF p G _ => by
    rw [rangeD_len]
    exact Nat.le_refl n
def small62 (i : Int) : Prop := -(2 ^ 62) ≤ i ∧ i < 2 ^ 62
def dRange1 (ts : DA) : DI := fun m Q => ts m fun vs m1 => match vs with
  | [.d (.int j)] => small62 j ∧ Q (rangeD 0 j.toNat) none m1
  | _ => False
def dRange2 (ts : DA) : DI := fun m Q => ts m fun vs m1 => match vs with
  | [.d (.int i), .d (.int j)] => (small62 i ∧ small62 j) ∧ Q (rangeD i (j - i).toNat) none m1
  | _ => False
variable {ts : DA}
theorem rv1 {K : PySem.W.Frag} {F : Hp} {A : List Addr} {x : Vl} {us : List V} (r : RepVs K F A [x] us) : ∃ u, us = [u] ∧ RepV K F A x u := by
  obtain ⟨u, r', rfl, h1, h2⟩ := r
  have e : r' = [] := h2
  rw [e]
  exact ⟨u, rfl, h1⟩
theorem rv2 {K : PySem.W.Frag} {F : Hp} {A : List Addr} {x y : Vl} {us : List V} (r : RepVs K F A [x, y] us) : ∃ u v, us = [u, v] ∧ RepV K F A x u ∧ RepV K F A y v := by
  obtain ⟨u, r', rfl, h1, h2⟩ := r
  obtain ⟨v, rfl, h3⟩ := rv1 h2
  exact ⟨u, v, rfl, h1, h3⟩
theorem ji_range1 {a : Expr} {p pos : Pos} (hg : Gl X "range") (hm : X.mg "range" = none) (ha : JA X [a] ts) (hs : starEach [a] X.env = [(false, eval a X.env)] := by rfl) : JI X tg (.Call (.Name "range" p) [a] [] pos) (dRange1 ts) := by
  refine (pi_range1 hg hm ha hs).imp fun σ H R hh => ?_
  obtain ⟨W, F, A, m, Qd, G, h, c⟩ := hh
  refine ⟨W, F, A, m, _, G, h, fun F1 A1 vs m1 H1 s1 p1 G1 q1 us r1 => ?_⟩
  split at q1
  · rename_i j
    obtain ⟨u, rfl, ru⟩ := rv1 r1
    have e : u = .int j := repB_int (H := H1) ru
    rw [e]
    exact ⟨j, rfl, q1.1.1, q1.1.2, c F1 A1 _ none m1 H1 s1 p1 G1 q1.2 _ (walks_range 0 j.toNat)⟩
  · exact q1.elim
theorem ji_range2 {a b : Expr} {p pos : Pos} (hg : Gl X "range") (hm : X.mg "range" = none) (ha : JA X [a, b] ts) (hs : starEach [a, b] X.env = [(false, eval a X.env), (false, eval b X.env)] := by rfl) (hs2 : starEach [b] X.env = [(false, eval b X.env)] := by rfl)
    : JI X tg (.Call (.Name "range" p) [a, b] [] pos) (dRange2 ts) := by
  refine (pi_range2 hg hm ha hs hs2).imp fun σ H R hh => ?_
  obtain ⟨W, F, A, m, Qd, G, h, c⟩ := hh
  refine ⟨W, F, A, m, _, G, h, fun F1 A1 vs m1 H1 s1 p1 G1 q1 us r1 => ?_⟩
  split at q1
  · rename_i i j
    obtain ⟨u, w, rfl, ru, rw'⟩ := rv2 r1
    have e : u = .int i := repB_int (H := H1) ru
    have e' : w = .int j := repB_int (H := H1) rw'
    rw [e, e']
    exact ⟨i, j, rfl, ⟨q1.1.1.1, q1.1.1.2, q1.1.2.1, q1.1.2.2⟩, c F1 A1 _ none m1 H1 s1 p1 G1 q1.2 _ (walks_range i (j - i).toNat)⟩
  · exact q1.elim
/-! enumerate, zip, reversed -/
def enumD : Nat → List Dt → List Dt
  | _, [] => []
  | n, x :: xs => .tup [.int n, x] :: enumD (n + 1) xs
theorem enumD_len : ∀ (xs : List Dt) (n : Nat), (enumD n xs).length = xs.length
  | [], _ => rfl
  | x :: xs, n => by
    unfold enumD
    rw [List.length_cons, List.length_cons, enumD_len xs]
theorem enumD_get : ∀ (xs : List Dt) (n i : Nat) (y : Dt), (enumD n xs)[i]? = some y → ∃ x, xs[i]? = some x ∧ y = .tup [.int ((n + i : Nat) : Int), x]
  | [], _, i, y, h => by
    unfold enumD at h
    simp at h
  | x :: xs, n, 0, y, h => by
    unfold enumD at h
    have e := Option.some.inj h
    exact ⟨x, rfl, by rw [← e]; rfl⟩
  | x :: xs, n, i + 1, y, h => by
    unfold enumD at h
    obtain ⟨z, h1, h2⟩ := enumD_get xs (n + 1) i y h
    exact ⟨z, h1, by rw [h2, show n + 1 + i = n + (i + 1) by omega]⟩
theorem tup_laid {K : PySem.W.Frag} {W F : Hp} {A : List Addr} {m : M} {σ : L2.St} {H : Hp} {T : Addr} {ds : List Dt} {vs : List V} (G : Good K W F A m σ H) (n : H T = none) (r : Reps K F ds vs) : ∃ F2, Same F F2 ∧ Good K W F2 A m σ (upd H T (.tup vs)) ∧ Rep K F2 (.tup ds) (.ref T) := by
  have s := same_upd (o := .tup vs) (G.ext.free n)
  refine ⟨upd F T (.tup vs), s, G.laid n, ?_⟩
  simp only [Rep]
  exact ⟨T, vs, rfl, SqT.of upd_same, Reps.mono s r⟩
theorem walks_enum {K : PySem.W.Frag} {F : Hp} {A : List Addr} {a : Addr} {vs : List V} {xs : List Dt} (s : SqL K F a vs) (r : Reps K F xs vs) : Walks K (Ite K a) F A (enumD 0 xs) none where
  go := fun W F' A' m σ H i x sF p G _ hi => by
    obtain ⟨y, hy, rfl⟩ := enumD_get xs 0 i x hi
    obtain ⟨v, hv, rv⟩ := r.get hy
    have sq : SqL K H a vs := (sF.trans G.ext).seq s
    refine ⟨⟨vs, v, sq, hv⟩, fun u H' y => ?_⟩
    obtain ⟨T, w, rfl, nT, rfl, y⟩ := y
    have e := (y vs sq).symm.trans hv
    cases e
    rw [Nat.zero_add]
    exact tup_laid G nT (.cons rep_int (.cons (Rep.mono sF rv) .nil))
  stop := fun W F' A' m σ H sF p G _ => ⟨vs, (sF.trans G.ext).seq s, by rw [enumD_len, r.length]; exact Nat.le_refl _⟩
/-- enumerate(a plain list) -/
def dEnum (ts : DA) : DI := fun m Q => ts m fun vs m1 => match vs with
  | [.d (.lst xs)] => Q (enumD 0 xs) none m1
  | _ => False
theorem ji_enum {e : Expr} {p pos tpos : Pos} {elts : List Expr} {kk : Nat} (hg : Gl X "enumerate") (hm : X.mg "enumerate" = none) (ha : JA X [e] ts) (hs : starEach [e] X.env = [(false, eval e X.env)] := by rfl) :
    JI X (.Tuple elts kk tpos) (.Call (.Name "enumerate" p) [e] [] pos) (dEnum ts) := by
  refine (pi_enum hg hm ha hs).imp fun σ H R hh => ?_
  obtain ⟨W, F, A, m, Qd, G, h, c⟩ := hh
  refine ⟨W, F, A, m, _, G, h, fun F1 A1 vs m1 H1 s1 p1 G1 q1 us r1 => ?_⟩
  split at q1
  · rename_i xs
    obtain ⟨u, rfl, ru⟩ := rv1 r1
    have r' : Rep X.K F1 (.lst xs) u := ru
    simp only [Rep] at r'
    obtain ⟨a, ws, rfl, hs, rs⟩ := r'
    exact ⟨a, ws, rfl, .inl (rd_mono G1.ext hs), c F1 A1 _ none m1 H1 s1 p1 G1 q1 _ (walks_enum (.inl hs) rs)⟩
  · exact q1.elim
def zipD : List Dt → List Dt → List Dt
  | x :: xs, y :: ys => .tup [x, y] :: zipD xs ys
  | _, _ => []
theorem zipD_len : ∀ (xs ys : List Dt), (zipD xs ys).length = min xs.length ys.length
  | [], _ => by simp [zipD]
  | _ :: _, [] => by simp [zipD]
  | x :: xs, y :: ys => by
    unfold zipD
    rw [List.length_cons, zipD_len xs ys, List.length_cons, List.length_cons]
    omega
theorem zipD_get : ∀ (xs ys : List Dt) (i : Nat) (z : Dt), (zipD xs ys)[i]? = some z → ∃ x y, xs[i]? = some x ∧ ys[i]? = some y ∧ z = .tup [x, y]
  | [], _, i, z, h => by simp [zipD] at h
  | _ :: _, [], i, z, h => by simp [zipD] at h
  | x :: xs, y :: ys, 0, z, h => by
    unfold zipD at h
    exact ⟨x, y, rfl, rfl, (Option.some.inj h).symm⟩
  | x :: xs, y :: ys, i + 1, z, h => by
    unfold zipD at h
    exact zipD_get xs ys i z h
theorem walks_zip {K : PySem.W.Frag} {F : Hp} {A : List Addr} {a b : Addr} {vs us : List V} {xs ys : List Dt} (s : SqL K F a vs) (r : Reps K F xs vs) (s' : SqL K F b us) (r' : Reps K F ys us) : Walks K (Itz K a b) F A (zipD xs ys) none where
  go := fun W F' A' m σ H i x sF p G _ hi => by
    obtain ⟨y, z, hy, hz, rfl⟩ := zipD_get xs ys i x hi
    obtain ⟨v, hv, rv⟩ := r.get hy
    obtain ⟨w, hw, rw'⟩ := r'.get hz
    have sq : SqL K H a vs := (sF.trans G.ext).seq s
    have sq' : SqL K H b us := (sF.trans G.ext).seq s'
    refine ⟨⟨vs, us, v, w, sq, sq', hv, hw⟩, fun u H' y => ?_⟩
    obtain ⟨T, v', w', rfl, nT, rfl, y1, y2⟩ := y
    have e := (y1 vs sq).symm.trans hv
    cases e
    have e := (y2 us sq').symm.trans hw
    cases e
    exact tup_laid G nT (.cons (Rep.mono sF rv) (.cons (Rep.mono sF rw') .nil))
  stop := fun W F' A' m σ H sF p G _ => ⟨vs, us, (sF.trans G.ext).seq s, (sF.trans G.ext).seq s', by rw [zipD_len, ← r.length, ← r'.length]; omega⟩
def dZip (ts : DA) : DI := fun m Q => ts m fun vs m1 => match vs with
  | [.d (.lst xs), .d (.lst ys)] => Q (zipD xs ys) none m1
  | _ => False
theorem ji_zip {e e2 : Expr} {p pos tpos : Pos} {elts : List Expr} {kk : Nat} (hg : Gl X "zip") (hm : X.mg "zip" = none) (ha : JA X [e, e2] ts)
    (hs : starEach [e, e2] X.env = (false, eval e X.env) :: starEach [e2] X.env := by rfl) (hpl : (backTo pos (starEach [e2] X.env)).any (·.1) = false := by rfl) :
    JI X (.Tuple elts kk tpos) (.Call (.Name "zip" p) [e, e2] [] pos) (dZip ts) := by
  refine (pi_zip hg hm ha hs hpl).imp fun σ H R hh => ?_
  obtain ⟨W, F, A, m, Qd, G, h, c⟩ := hh
  refine ⟨W, F, A, m, _, G, h, fun F1 A1 vs m1 H1 s1 p1 G1 q1 us r1 => ?_⟩
  split at q1
  · rename_i xs ys
    obtain ⟨u, w, rfl, ru, rw'⟩ := rv2 r1
    have r' : Rep X.K F1 (.lst xs) u := ru
    have r2' : Rep X.K F1 (.lst ys) w := rw'
    simp only [Rep] at r' r2'
    obtain ⟨a, ws, rfl, hs, rs⟩ := r'
    obtain ⟨b, ts, rfl, hs', rs'⟩ := r2'
    exact ⟨a, b, ws, ts, rfl, .inl (rd_mono G1.ext hs), .inl (rd_mono G1.ext hs'), c F1 A1 _ none m1 H1 s1 p1 G1 q1 _ (walks_zip (.inl hs) rs (.inl hs') rs')⟩
  · exact q1.elim
theorem walks_rev {K : PySem.W.Frag} {F : Hp} {A : List Addr} {a : Addr} {vs : List V} {xs : List Dt} (s : SqL K F a vs) (r : Reps K F xs vs) : Walks K (Itv K a vs.length) F A xs.reverse none where
  go := fun W F' A' m σ H i x sF p G _ hi => by
    have hl : i < xs.length := by
      have := (List.getElem?_eq_some_iff.mp hi).1
      rwa [List.length_reverse] at this
    rw [List.getElem?_reverse hl] at hi
    obtain ⟨v, hv, rv⟩ := r.get hi
    rw [r.length] at hv hl
    have sq : SqL K H a vs := (sF.trans G.ext).seq s
    refine ⟨⟨hl, vs, v, sq, hv⟩, fun u H' y => ?_⟩
    obtain ⟨rfl, y⟩ := y
    have e := (y vs sq).symm.trans hv
    cases e
    exact ⟨F', Same.refl _, G, Rep.mono sF rv⟩
  stop := fun W F' A' m σ H sF p G _ => by
    show vs.length ≤ xs.reverse.length
    rw [List.length_reverse, r.length]
    exact Nat.le_refl _
def dRev (ts : DA) : DI := fun m Q => ts m fun vs m1 => match vs with
  | [.d (.lst xs)] => Q xs.reverse none m1
  | _ => False
theorem ji_rev {e : Expr} {p pos : Pos} (hg : Gl X "reversed") (hm : X.mg "reversed" = none) (ha : JA X [e] ts) (hs : starEach [e] X.env = [(false, eval e X.env)] := by rfl) : JI X tg (.Call (.Name "reversed" p) [e] [] pos) (dRev ts) := by
  refine (pi_reversed hg hm ha hs).imp fun σ H R hh => ?_
  obtain ⟨W, F, A, m, Qd, G, h, c⟩ := hh
  refine ⟨W, F, A, m, _, G, h, fun F1 A1 vs m1 H1 s1 p1 G1 q1 us r1 => ?_⟩
  split at q1
  · rename_i xs
    obtain ⟨u, rfl, ru⟩ := rv1 r1
    have r' : Rep X.K F1 (.lst xs) u := ru
    simp only [Rep] at r'
    obtain ⟨a, ws, rfl, hs, rs⟩ := r'
    exact ⟨a, ws, rfl, .inl (rd_mono G1.ext hs), c F1 A1 _ none m1 H1 s1 p1 G1 q1 _ (walks_rev (.inl hs) rs)⟩
  · exact q1.elim
end

/-! ### statements -/
def dNext : DS := fun E m => E.nx m
def dSeq (t u : DS) : DS := fun E m => t ⟨fun m1 => u E m1, E.rt, E.bk, E.ct⟩ m
def dPass : DS := fun E m => E.nx m
def dBreak : DS := fun E m => E.bk m
def dCont : DS := fun E m => E.ct m
def dRet (t : DE) : DS := fun E m => t m fun v m1 => E.rt v m1
def dRetN : DS := fun E m => E.rt (.d .non) m
def dDo (t : DE) : DS := fun E m => t m fun _ m1 => E.nx m1
def dSet (i : Nat) (t : DE) : DS := fun E m => t m fun v m1 => E.nx ⟨m1.sl.set i (some v), m1.st⟩
def dAsg (t : DE) (g : Tgt) : DS := fun E m => t m fun v m1 => tgD g v m1 E.nx
def dIfS (c : DT) (t u : DS) : DS := fun E m => c m fun b m1 => if b = true then t E m1 else u E m1
def dWhile (c : DT) (b : DS) : DS := fun E m => ∃ W : Nat → M → Prop, (∃ n, W n m) ∧ ∀ n m, W n m →
  c m fun k m1 => if k = true then b ⟨fun m2 => ∃ n', n' < n ∧ W n' m2, E.rt, E.nx, fun m2 => ∃ n', n' < n ∧ W n' m2⟩ m1 else E.nx m1
/-- through the items xs, one after the other -/
def dLoop (g : Tgt) (b : DS) (all : List Dt) (lk : Option Nat) (E : DEnds) : List Dt → M → Prop
  | [], m => lockOk lk all m ∧ E.nx m
  | x :: xs, m => lockOk lk all m ∧ tgD g (.d x) m fun m1 => b ⟨dLoop g b all lk E xs, E.rt, E.nx, dLoop g b all lk E xs⟩ m1
def dFor (di : DI) (g : Tgt) (b : DS) : DS := fun E m => di m fun xs lk m1 => dLoop g b xs lk E xs m1
section
variable {X : Cx} {st : Stmt} {rest : List Stmt} {t u : DS} {e : Expr} {te : DE} {pos : Pos}
theorem js_nil : JSs X [] dNext := pss_nil.imp fun D σ H ⟨W, F, A, m, E, G, h, c⟩ => c.nx F A m σ H (Same.refl _) (pre_refl _) G h
theorem lift_seq {D : Ends} {σ : L2.St} {H : Hp} (h : liftS X.K (dSeq t u) D σ H) : tSeq (liftS X.K t) (liftS X.K u) D σ H := by
  obtain ⟨W, F, A, m, E, G, h, c⟩ := h
  exact ⟨W, F, A, m, _, G, h, ⟨fun F1 A1 m1 σ1 H1 s1 p1 G1 q1 => ⟨W, F1, A1, m1, E, G1, q1, c.mono s1 p1⟩, c.rt, c.bk, c.ct⟩⟩
theorem js_cons (h1 : JS X st t) (h2 : JSs X rest u) : JSs X (st :: rest) (dSeq t u) := (pss_cons h1 h2).imp fun _ _ _ h => lift_seq h
theorem js_one (h1 : JS X st t) : JSs X [st] t := pss_one h1
theorem js_pass : JS X (.Pass pos) dPass := ps_pass.imp fun D σ H ⟨W, F, A, m, E, G, h, c⟩ => c.nx F A m σ H (Same.refl _) (pre_refl _) G h
theorem js_break : JS X (.Break pos) dBreak := ps_break.imp fun D σ H ⟨W, F, A, m, E, G, h, c⟩ => c.bk F A m σ H (Same.refl _) (pre_refl _) G h
theorem js_cont : JS X (.Continue pos) dCont := ps_continue.imp fun D σ H ⟨W, F, A, m, E, G, h, c⟩ => c.ct F A m σ H (Same.refl _) (pre_refl _) G h
theorem js_ret (he : JE X e te) : JS X (.Return (some e) pos) (dRet te) := by
  refine (ps_ret he).imp fun D σ H hh => ?_
  obtain ⟨W, F, A, m, E, G, h, c⟩ := hh
  exact ⟨W, F, A, m, _, G, h, fun F1 A1 v m1 H1 s1 p1 G1 q1 u r1 => c.rt F1 A1 m1 σ H1 v u s1 p1 G1 r1 q1⟩
theorem js_retN : JS X (.Return none pos) dRetN := ps_retN.imp fun D σ H ⟨W, F, A, m, E, G, h, c⟩ => c.rt F A m σ H (.d .non) .non (Same.refl _) (pre_refl _) G rv_non h
theorem js_do (he : JE X e te) (hs : swapsWith e none pos.line X.env = pure false := by rfl) : JS X (.Expr e pos) (dDo te) := by
  refine (ps_expr he hs).imp fun D σ H hh => ?_
  obtain ⟨W, F, A, m, E, G, h, c⟩ := hh
  exact ⟨W, F, A, m, _, G, h, fun F1 A1 v m1 H1 s1 p1 G1 q1 u r1 => c.nx F1 A1 m1 σ H1 s1 p1 G1 q1⟩
theorem lift_set {i : Nat} {D : Ends} {σ : L2.St} {H : Hp} (h : liftS X.K (dSet i te) D σ H) : tAsg (lift X.K te) (gName i) D σ H := by
  obtain ⟨W, F, A, m, E, G, h, c⟩ := h
  exact ⟨W, F, A, m, _, G, h, fun F1 A1 v m1 H1 s1 p1 G1 q1 u r1 => c.nx F1 A1 _ _ H1 s1 p1 (G1.store r1) q1⟩
theorem js_set {i : Nat} {x : Str} {pos' : Pos} (hN : X.N.Nodup) (hi : X.N[i]? = some x) (hx : Loc X.env.scope x) (he : JE X e te) (hs : swapsWith e (some (.Name x pos')) pos.line X.env = pure false := by rfl) (hf : X.fn x = true ∨ X.env.scope.names.lookup x = some .local := by first | exact .inl rfl | exact .inr rfl | assumption) :
    JS X (.Assign [.Name x pos'] e pos) (dSet i te) := (ps_set hN hi hx he hs hf).imp fun _ _ _ h => lift_set h
theorem js_asg {tg : Expr} {g : Tgt} (he : JE X e te) (hg : PG X tg (tgH X.K g)) (hs : swapsWithSole [tg] e pos.line X.env = pure false := by rfl) (hw : swappedStores [tg] e X.env = pure none := by rfl)
    (h1 : (assignEach [tg] X.env).map (·.2) = [assign tg X.env] := by rfl) : JS X (.Assign [tg] e pos) (dAsg te g) := by
  refine (ps_asg he hg hs hw h1).imp fun D σ H hh => ?_
  obtain ⟨W, F, A, m, E, G, h, c⟩ := hh
  exact ⟨W, F, A, m, _, G, h, fun F1 A1 v m1 H1 s1 p1 G1 q1 u r1 => tg_ok G1 r1 q1 fun m' σ' G' _ q' => c.nx F1 A1 m' σ' H1 s1 p1 G' q'⟩
/-- a, b = x, y -/
def dPar (i j : Nat) (ts : DA) : DS := fun E m => ts m fun vs m1 => match vs with
  | [v, w] => E.nx ⟨(m1.sl.set i (some v)).set j (some w), m1.st⟩
  | _ => False
theorem js_par {i j : Nat} {x y : Str} {a b : Expr} {ts : DA} {px py pt : Pos} {kt k2 pt2} (hc : X.calm = true) (hN : X.N.Nodup) (hi : X.N[i]? = some x) (hj : X.N[j]? = some y) (hij : i ≠ j)
    (hx : X.env.scope.names.lookup x = some .local) (hy : X.env.scope.names.lookup y = some .local) (ha : JA X [a, b] ts)
    (hw : swappedStores [.Tuple [.Name x px, .Name y py] kt pt] (.Tuple [a, b] k2 pt2) X.env = pure (some [x, y]) := by rfl)
    (hs : swapsWithSole [.Tuple [.Name x px, .Name y py] kt pt] (.Tuple [a, b] k2 pt2) pos.line X.env = pure false := by rfl) :
    JS X (.Assign [.Tuple [.Name x px, .Name y py] kt pt] (.Tuple [a, b] k2 pt2) pos) (dPar i j ts) := by
  refine (ps_par hc hN hi hj hij hx hy ha hw hs).imp fun D σ H hh => ?_
  obtain ⟨W, F, A, m, E, G, h, c⟩ := hh
  refine ⟨W, F, A, m, _, G, h, fun F1 A1 vs m1 H1 s1 p1 G1 q1 us r1 => ?_⟩
  split at q1
  · rename_i v w
    obtain ⟨a1, b1, rfl, ra, rb⟩ := rv2 r1
    exact ⟨a1, b1, rfl, c.nx F1 A1 _ _ H1 s1 p1 ((G1.store ra).store rb) q1⟩
  · exact q1.elim
/-- name op= e for ints -/
def dAug (i : Nat) (r : DR2) (te : DE) : DS := fun E m => match m.sl[i]? with
  | some (some (.d x)) => te m fun v m1 => onD v fun y => r x y fun z => E.nx ⟨m1.sl.set i (some (.d z)), m1.st⟩
  | _ => False
theorem js_augI {i : Nat} {x : Str} {op : Operator} {f : Int → Int → Int} {pos' : Pos} (ho : PIp X op (ipI f)) (hN : X.N.Nodup) (hi : X.N[i]? = some x) (hx : Loc X.env.scope x) (he : JE X e te) (hf : X.fn x = true ∨ X.env.scope.names.lookup x = some .local := by first | exact .inl rfl | exact .inr rfl | assumption) :
    JS X (.AugAssign (.Name x pos') op e pos) (dAug i (rInt (fun _ _ => True) fun a b => .int (f a b)) te) := by
  refine (ps_aug hN hi hx he ho hf).imp fun D σ H hh => ?_
  obtain ⟨W, F, A, m, E, G, h, c⟩ := hh
  unfold dAug at h
  split at h
  · rename_i y ey
    obtain ⟨u, eu, ru⟩ := G.sl i _ ey
    refine ⟨u, eu, W, F, A, m, _, G, h, fun F1 A1 v m1 H1 s1 p1 G1 q1 w r1 => ?_⟩
    obtain ⟨z, rfl, q⟩ := onD_elim q1
    obtain ⟨a, b, rfl, rfl, _, q⟩ := rInt_elim q
    have e1 : u = .int a := repB_int (H := H1) ru
    have e2 : w = .int b := repB_int (H := H1) r1
    rw [e1, e2]
    exact ⟨a, b, rfl, rfl, c.nx F1 A1 _ _ H1 s1 p1 (G1.store rv_int) q⟩
  · exact h.elim
theorem js_if {c : Expr} {a b : List Stmt} {tc : DT} (hc : JT X c tc) (ha : JSs X a t) (hb : JSs X b u) : JS X (.If c a b pos) (dIfS tc t u) := by
  refine (ps_if hc ha hb).imp fun D σ H hh => ?_
  obtain ⟨W, F, A, m, E, G, h, c⟩ := hh
  refine ⟨W, F, A, m, _, G, h, fun F1 A1 v m1 H1 s1 p1 G1 q1 => ?_⟩
  cases v with
  | true => exact ⟨W, F1, A1, m1, E, G1, q1, c.mono s1 p1⟩
  | false => exact ⟨W, F1, A1, m1, E, G1, q1, c.mono s1 p1⟩
theorem js_while {c : Expr} {body : List Stmt} {tc : DT} {tb : DS} (hp : PassesOwn (model X.prog X.w) X.A X.env X.xe) (hc : JT X c tc) (hb : JSs X body tb) : JS X (.While c body [] pos) (dWhile tc tb) := by
  refine (ps_while hp hc hb).imp fun D σ H hh => ?_
  obtain ⟨W, F, A, m, E, G, h, c⟩ := hh
  obtain ⟨Wi, ⟨n0, w0⟩, turn⟩ := h
  refine ⟨fun n σ' H' => ∃ F' A' m', Same F F' ∧ A <+: A' ∧ Good X.K W F' A' m' σ' H' ∧ Wi n m', ⟨n0, F, A, m, Same.refl _, pre_refl _, G, w0⟩, ?_⟩
  rintro n σ1 H1 ⟨F1, A1, m1, s1, p1, G1, w1⟩
  refine ⟨W, F1, A1, m1, _, G1, turn n m1 w1, fun F2 A2 k m2 H2 s2 p2 G2 q2 => ?_⟩
  cases k with
  | false => exact c.nx F2 A2 m2 _ H2 (s1.trans s2) (p1.trans p2) G2 q2
  | true =>
    refine ⟨fun σ' H' => ∃ F' A' m', Same F F' ∧ A <+: A' ∧ Good X.K W F' A' m' σ' H' ∧ ∃ n', n' < n ∧ Wi n' m', fun σ' H' hN => ?_, ?_⟩
    · obtain ⟨F', A', m', s', p', G', n', hn, w'⟩ := hN
      exact ⟨n', hn, F', A', m', s', p', G', w'⟩
    · have c' := c.mono (s1.trans s2) (p1.trans p2)
      refine ⟨W, F2, A2, m2, _, G2, q2, ⟨fun F3 A3 m3 σ3 H3 s3 p3 G3 q3 => ⟨F3, A3, m3, (s1.trans s2).trans s3, (p1.trans p2).trans p3, G3, q3⟩, c'.rt, c'.nx, fun F3 A3 m3 σ3 H3 s3 p3 G3 q3 => ⟨F3, A3, m3, (s1.trans s2).trans s3, (p1.trans p2).trans p3, G3, q3⟩⟩⟩
theorem js_for {iter tg : Expr} {body : List Stmt} {di : DI} {g : Tgt} {tb : DS} (hp : PassesOwn (model X.prog X.w) X.A X.env X.xe) (hc : X.calm = true) (hi : JI X tg iter di) (hg : PG X tg (tgH X.K g)) (hb : JSs X body tb)
    (hs : ∀ x, foldedSetIterable iter X.env x = pure x := by intro _; rfl) : JS X (.For tg iter body [] pos) (dFor di g tb) := by
  refine (ps_for hp hc hi hg hb hs).imp fun D σ H hh => ?_
  obtain ⟨W, F, A, m, E, G, h, c⟩ := hh
  refine ⟨W, F, A, m, _, G, h, fun F1 A1 xs lk m1 H1 s1 p1 G1 q1 J w => ?_⟩
  refine ⟨fun i n σ' H' => ∃ F' A' m', Same F1 F' ∧ A1 <+: A' ∧ Good X.K W F' A' m' σ' H' ∧ i + n = xs.length ∧ dLoop g tb xs lk E (xs.drop i) m',
    ⟨xs.length, F1, A1, m1, Same.refl _, pre_refl _, G1, Nat.zero_add _, q1⟩, ?_⟩
  rintro i n σ2 H2 ⟨F2, A2, m2, s2, p2, G2, en, q2⟩
  by_cases hlt : i < xs.length
  · refine .inr ?_
    have ed : xs.drop i = xs[i] :: xs.drop (i + 1) := List.drop_eq_getElem_cons hlt
    rw [ed] at q2
    obtain ⟨hl, q2⟩ : lockOk lk xs m2 ∧ tgD g (.d xs[i]) m2 fun m1 => tb ⟨dLoop g tb xs lk E (xs.drop (i + 1)), E.rt, E.nx, dLoop g tb xs lk E (xs.drop (i + 1))⟩ m1 := q2
    obtain ⟨hgo, hy⟩ := w.go W F2 A2 m2 σ2 H2 i xs[i] s2 p2 G2 hl (List.getElem?_eq_getElem hlt)
    refine ⟨hgo, fun σ' H' => ∃ F' A' m', Same F1 F' ∧ A1 <+: A' ∧ Good X.K W F' A' m' σ' H' ∧ dLoop g tb xs lk E (xs.drop (i + 1)) m', fun σ' H' hN => ?_, fun v H3 y => ?_⟩
    · obtain ⟨F', A', m', s', p', G', q'⟩ := hN
      exact ⟨n - 1, by omega, F', A', m', s', p', G', by omega, q'⟩
    · obtain ⟨F3, s3, G3, r3⟩ := hy v H3 y
      refine tg_ok G3 (v := .d xs[i]) r3 q2 fun m' σ' G' _ q' => ?_
      have c' := c.mono (s1.trans (s2.trans s3)) (p1.trans p2)
      exact ⟨W, F3, A2, m', _, G', q', ⟨fun F4 A4 m4 σ4 H4 s4 p4 G4 q4 => ⟨F4, A4, m4, s2.trans (s3.trans s4), p2.trans p4, G4, q4⟩, c'.rt, c'.nx, fun F4 A4 m4 σ4 H4 s4 p4 G4 q4 => ⟨F4, A4, m4, s2.trans (s3.trans s4), p2.trans p4, G4, q4⟩⟩⟩
  · have e : i = xs.length := by omega
    subst e
    rw [List.drop_length] at q2
    obtain ⟨hl, q2⟩ : lockOk lk xs m2 ∧ E.nx m2 := q2
    exact .inl ⟨w.stop W F2 A2 m2 σ2 H2 s2 p2 G2 hl, c.nx F2 A2 m2 σ2 H2 (s1.trans s2) (p1.trans p2) G2 q2⟩
end
end RT

set_option maxRecDepth 100000
set_option maxHeartbeats 4000000
namespace RT
open PySem PySem.Spec PyProof.Rows L2
section
variable {X : Cx} {a b e : Expr} {es : List Expr} {ta tb t : DE} {ts : DA} {pos : Pos}

/-! ### data, by the library's own -/
mutual
def toPy : Dt → PyData
  | .non => .none
  | .bl b => .bool b
  | .int i => .int i
  | .str s => .str s
  | .tup ds => .tuple (toPys ds)
  | .lst ds => .list (toPys ds)
def toPys : List Dt → List PyData
  | [] => []
  | d :: ds => toPy d :: toPys ds
end
theorem toPys_map : ∀ ds : List Dt, toPys ds = ds.map toPy
  | [] => rfl
  | d :: ds => by
    unfold toPys
    rw [toPys_map ds]
    rfl
mutual
theorem dp_of {K : PySem.W.Frag} {H : Hp} : ∀ {d : Dt} {v : V}, Rep K H d v → Dp K H v (toPy d)
  | .non, v, h => by
    simp only [Rep] at h
    rw [h]
    unfold toPy
    exact .non
  | .bl b, v, h => by
    simp only [Rep] at h
    rw [h]
    unfold toPy
    exact .bl b
  | .int i, v, h => by
    simp only [Rep] at h
    rw [h]
    unfold toPy
    exact .int i
  | .str s, v, h => by
    simp only [Rep] at h
    rw [h]
    unfold toPy
    exact .str s
  | .tup ds, v, h => by
    simp only [Rep] at h
    obtain ⟨a, vs, rfl, s, r⟩ := h
    unfold toPy
    exact .tup s (dps_of r)
  | .lst ds, v, h => by
    simp only [Rep] at h
    obtain ⟨a, vs, rfl, s, r⟩ := h
    unfold toPy
    exact .lst (.inl s) (dps_of r)
theorem dps_of {K : PySem.W.Frag} {H : Hp} : ∀ {ds : List Dt} {vs : List V}, Reps K H ds vs → DpAll K H vs (toPys ds)
  | [], vs, h => by
    simp only [Reps] at h
    rw [h]
    unfold toPys
    exact .nil
  | d :: ds, vs, h => by
    simp only [Reps] at h
    obtain ⟨v, r, rfl, h1, h2⟩ := h
    unfold toPys
    exact .cons (dp_of h1) (dps_of h2)
end
theorem rep_up {K : PySem.W.Frag} {F H : Hp} (s : Same F H) : ∀ {x : Dt} {u : V}, RepB K F H x u → Rep K H x u
  | .lst ds, u, h => by
    obtain ⟨a, vs, rfl, q, r⟩ := h
    simp only [Rep]
    exact ⟨a, vs, rfl, q, Reps.mono s r⟩
  | .tup ds, u, h => Rep.mono s (d := .tup ds) h
  | .non, u, h => Rep.mono s h
  | .bl _, u, h => Rep.mono s h
  | .int _, u, h => Rep.mono s h
  | .str _, u, h => Rep.mono s h
def eqD (x y : Dt) : Bool := PyData.eqv (toPy x) (toPy y)
/-- of such a depth and such texts as == compares without a word -/
def shD (x : Dt) : Prop := SeqAt.shaped (toPy x) = true
def rEq : DR2 := fun x y P => shD x ∧ shD y ∧ P (.bl (eqD x y))
def rNe : DR2 := fun x y P => shD x ∧ shD y ∧ P (.bl (!eqD x y))
theorem o_eq {k : Nat} (hr : GRoom k X.A) : OpD X (compareOp .Eq) rEq := ⟨_, op_eqD hr.hu, fun W F A m σ H x y u v P Q G rx ry q c =>
  ⟨_, _, dp_of (rep_up G.ext rx), dp_of (rep_up G.ext ry), q.1, q.2.1, c F H _ _ (Same.refl _) G rep_bl q.2.2⟩⟩
theorem o_ne {k : Nat} (hr : GRoom k X.A) : OpD X (compareOp .NotEq) rNe := ⟨_, op_neD hr.hu, fun W F A m σ H x y u v P Q G rx ry q c =>
  ⟨_, _, dp_of (rep_up G.ext rx), dp_of (rep_up G.ext ry), q.1, q.2.1, c F H _ _ (Same.refl _) G rep_bl q.2.2⟩⟩
/-- x in a list -/
def rIn (neg : Bool) : DR2 := fun x y P => match y with
  | .lst ys => shD x ∧ shD (.lst ys) ∧ P (.bl (if neg then !ys.any fun z => eqD z x else ys.any fun z => eqD z x))
  | _ => False
theorem any_py (ys : List Dt) (x : Dt) : ((toPys ys).any fun z => PyData.eqv z (toPy x)) = ys.any fun z => eqD z x := by
  rw [toPys_map, List.any_map]
  rfl
theorem o_in {k : Nat} (hr : GRoom k X.A) : OpD X (compareOp .In) (rIn false) := ⟨_, op_inD (by have := hr.room.un; omega), fun W F A m σ H x y u v P Q G rx ry q c => by
  unfold rIn at q
  split at q
  · rename_i ys
    refine ⟨_, toPys ys, dp_of (rep_up G.ext rx), ?_, q.1, ?_, ?_⟩
    · have := dp_of (rep_up G.ext ry)
      unfold toPy at this
      exact this
    · have := q.2.1
      unfold shD toPy at this
      exact this
    · rw [any_py]
      exact c F H _ _ (Same.refl _) G rep_bl q.2.2
  · exact q.elim⟩
theorem o_notIn {k : Nat} (hr : GRoom k X.A) : OpD X (compareOp .NotIn) (rIn true) := ⟨_, op_notInD (by have := hr.room.un; omega), fun W F A m σ H x y u v P Q G rx ry q c => by
  unfold rIn at q
  split at q
  · rename_i ys
    refine ⟨_, toPys ys, dp_of (rep_up G.ext rx), ?_, q.1, ?_, ?_⟩
    · have := dp_of (rep_up G.ext ry)
      unfold toPy at this
      exact this
    · have := q.2.1
      unfold shD toPy at this
      exact this
    · rw [any_py]
      exact c F H _ _ (Same.refl _) G rep_bl q.2.2
  · exact q.elim⟩
def rIsB (neg : Bool) : DR2 := fun x y P => match x, y with
  | .bl i, .bl j => P (.bl (if neg then !decide (i = j) else decide (i = j)))
  | _, _ => False
theorem o_isB : OpD X (compareOp .Is) (rIsB false) := ⟨_, op_is_bl, fun W F A m σ H x y u v P Q G rx ry q c => by
  unfold rIsB at q
  split at q
  · exact ⟨_, _, repB_bl rx, repB_bl ry, c F H _ _ (Same.refl _) G rep_bl q⟩
  · exact q.elim⟩

/-! ### list + list, tuple + tuple -/
theorem op_catR : OpR X (binaryOp .Add) (fun x y H Q => ∃ l b xs zs, x = .ref l ∧ y = .ref b ∧ Rd H l (.lst xs) ∧ Rd H b (.lst zs) ∧ xs.length + zs.length ≤ sizeLine ∧ ∀ p, H p = none → Q (.ref p) (upd H p (.lst (xs ++ zs)))) := by
  intro pins s σ H x y v u Q I rx ry h
  obtain ⟨l, b, xs, zs, rfl, rfl, hH, hB, hz, q⟩ := h
  cases rx
  cases ry
  obtain ⟨z, its, n, r, e⟩ := hH.ok I.hok
  obtain ⟨z2, its2, n2, r2, e2⟩ := hB.ok I.hok
  refine PySem.P.add_list e e2 ?_ (by rw [List.size_toArray, List.size_toArray, ← r.length, ← r2.length]; omega)
  have ea : its.toArray ++ its2.toArray = (its ++ its2).toArray := by simp
  rw [ea]
  exact ⟨.ref _, _, I.lnew (t' := s.toks) (r.append r2) (by rw [List.length_append]; omega), rfl, q _ I.fresh⟩
theorem ll_elim {x y : Dt} {P : List Dt → List Dt → Prop} (h : match x, y with
  | .lst xs, .lst ys => P xs ys
  | _, _ => False) : ∃ xs ys, x = .lst xs ∧ y = .lst ys ∧ P xs ys := by
  split at h
  · exact ⟨_, _, rfl, rfl, h⟩
  · exact h.elim
/-- list + list: the new one plain, or one's own -/
def dCat (own : Bool) (ta tb : DE) : DE := fun m Q => ta m fun v m1 => tb m1 fun w m2 => onV m2 v fun x => onV m2 w fun y => match x, y with
  | .lst xs, .lst ys => xs.length + ys.length ≤ sizeLine ∧ if own = true then Q (.c m2.st.length) ⟨m2.sl, m2.st ++ [.lst (xs ++ ys)]⟩ else Q (.d (.lst (xs ++ ys))) m2
  | _, _ => False
theorem je_cat (own : Bool) (ha : JE X a ta) (hb : JE X b tb) : JE X (.BinOp a .Add b pos) (dCat own ta tb) := by
  refine (pe_op op_catR ha hb).imp fun σ H Q hh => ?_
  obtain ⟨W, F, A, m, Qd, G, h, c⟩ := hh
  refine ⟨W, F, A, m, _, G, h, fun F1 A1 v m1 H1 s1 p1 G1 q1 u r1 => ⟨W, F1, A1, m1, _, G1, q1, fun F2 A2 w m2 H2 s2 p2 G2 q2 u2 r2 => ?_⟩⟩
  obtain ⟨x, ex, q2⟩ := onV_elim q2
  obtain ⟨y, ey, q2⟩ := onV_elim q2
  have rx := G2.view (RepV.mono s2 p2 r1) ex
  have ry := G2.view r2 ey
  obtain ⟨xs, ys, rfl, rfl, q2⟩ := ll_elim q2
  obtain ⟨l, vs, rfl, hl, rl⟩ := rx
  obtain ⟨b, ws, rfl, hb, rb⟩ := ry
  refine ⟨l, b, vs, ws, rfl, rfl, hl, hb, by rw [← rl.length, ← rb.length]; exact q2.1, fun p np => ?_⟩
  have q := q2.2
  cases own with
  | true => exact c F2 (A2 ++ [p]) _ _ _ (s1.trans s2) (p1.trans (p2.trans ⟨[p], rfl⟩)) (G2.own np (rl.append rb)) q _ ⟨p, by rw [← G2.len]; simp, rfl⟩
  | false =>
    have s3 := same_upd (o := .lst (vs ++ ws)) (G2.ext.free np)
    refine c (upd F2 p (.lst (vs ++ ws))) A2 _ m2 _ (s1.trans (s2.trans s3)) (p1.trans p2) (G2.laid np) q _ ?_
    show Rep X.K _ (.lst (xs ++ ys)) _
    simp only [Rep]
    exact ⟨p, _, rfl, Rd.of upd_same, Reps.mono s3 (rl.append rb)⟩
def rCatT : DR2 := fun x y P => match x, y with
  | .tup xs, .tup ys => xs.length + ys.length ≤ sizeLine ∧ P (.tup (xs ++ ys))
  | _, _ => False
theorem reps_nil {K : PySem.W.Frag} {F : Hp} {ds : List Dt} {vs : List V} (r : Reps K F ds vs) (h : vs = []) : ds = [] := by
  have := r.length
  rw [h] at this
  exact List.eq_nil_of_length_eq_zero this
theorem o_catT : OpD X (binaryOp .Add) rCatT := ⟨_, op_catA, fun W F A m σ H x y u v P Q G rx ry q c => by
  unfold rCatT at q
  split at q
  · rename_i xs ys
    obtain ⟨l, vs, rfl, hl, rl⟩ := repB_tup rx
    obtain ⟨b, ws, rfl, hb, rb⟩ := repB_tup ry
    refine ⟨l, b, vs, ws, rfl, rfl, seqT_mono G.ext hl, seqT_mono G.ext hb, by rw [← rl.length, ← rb.length]; exact q.1, fun e => ?_, fun e e2 => ?_, fun _ _ p np => ?_⟩
    · have e1 := reps_nil rl e
      subst e1
      exact c F H _ _ (Same.refl _) G ry q.2
    · have e1 := reps_nil rb e2
      subst e1
      have q2 := q.2
      rw [List.append_nil] at q2
      exact c F H _ _ (Same.refl _) G rx q2
    · obtain ⟨F2, s2, G2, r2⟩ := tup_laid G np (rl.append rb)
      exact c F2 _ _ _ s2 G2 r2 q.2
  · exact q.elim⟩

/-! ### built-ins by name -/
def onVs (m : M) : List Vl → (List Dt → Prop) → Prop
  | [], k => k []
  | v :: r, k => onV m v fun x => onVs m r fun xs => k (x :: xs)
def RepBs (K : PySem.W.Frag) (F H : Hp) : List Dt → List V → Prop
  | [], us => us = []
  | d :: ds, us => ∃ u r, us = u :: r ∧ RepB K F H d u ∧ RepBs K F H ds r
theorem onVs_elim {K : PySem.W.Frag} {W F : Hp} {A : List Addr} {m : M} {σ : L2.St} {H : Hp} (G : Good K W F A m σ H) : ∀ {vs : List Vl} {us : List V} {k : List Dt → Prop}, RepVs K F A vs us → onVs m vs k → ∃ xs, RepBs K F H xs us ∧ k xs
  | [], us, k, r, h => by
    have e : us = [] := r
    exact ⟨[], e, h⟩
  | v :: vs, us, k, r, h => by
    obtain ⟨u, us', rfl, r1, r2⟩ := r
    obtain ⟨x, ex, h⟩ := onV_elim h
    obtain ⟨xs, rs, h⟩ := onVs_elim G r2 h
    exact ⟨x :: xs, ⟨u, us', rfl, G.view r1 ex, rs⟩, h⟩
abbrev DRB := List Dt → (Dt → Prop) → Prop
def dBi (r : DRB) (ts : DA) : DE := fun m Q => ts m fun vs m1 => onVs m1 vs fun xs => r xs fun z => Q (.d z) m1
/-- a built-in's rule over plain data -/
def BiD (X : Cx) (f : Value) (r : DRB) : Prop := ∃ R, CallR X f R ∧ ∀ (W F : Hp) (A : List Addr) (m : M) (σ : L2.St) (H : Hp) (xs : List Dt) (us : List V) (P : Dt → Prop) (Q : VK), Good X.K W F A m σ H → RepBs X.K F H xs us → r xs P →
    (∀ F' H' z w, Same F F' → Good X.K W F' A m σ H' → Rep X.K F' z w → P z → Q w H') → R us H Q
theorem lift_bi {K : PySem.W.Frag} {R : List V → Hp → VK → Prop} {r : DRB} (hR : ∀ (W F : Hp) (A : List Addr) (m : M) (σ : L2.St) (H : Hp) (xs : List Dt) (us : List V) (P : Dt → Prop) (Q : VK), Good K W F A m σ H → RepBs K F H xs us → r xs P →
    (∀ F' H' z w, Same F F' → Good K W F' A m σ H' → Rep K F' z w → P z → Q w H') → R us H Q) {σ : L2.St} {H : Hp} {Q : VK} (h : lift K (dBi r ts) σ H Q) : tCB R (liftA K ts) σ H Q := by
  obtain ⟨W, F, A, m, Qd, G, h, c⟩ := h
  refine ⟨W, F, A, m, _, G, h, fun F1 A1 vs m1 H1 s1 p1 G1 q1 us r1 => ?_⟩
  obtain ⟨xs, rs, q⟩ := onVs_elim G1 r1 q1
  exact hR W F1 A1 m1 σ H1 xs us _ Q G1 rs q fun F' H' z w s' G' rz pz => c F' A1 (.d z) m1 H' (s1.trans s') p1 G' pz w rz
theorem je_bi {x : Str} {id : String} {r : DRB} {p : Pos} (hc : BiD X (.builtin id) r) (hg : Gl X x) (hm : X.mg x = none) (hv : bootBuiltins x = some (.builtin id)) (ha : JA X (e :: es) ts) (hn : x ≠ "__name__" := by decide) (hdb : (x == ("__debug__" : Str)) = false := by decide)
    (he : starEach (e :: es) X.env = (false, eval e X.env) :: starEach es X.env := by rfl) (hpl : (backTo pos (starEach es X.env)).any (·.1) = false := by rfl) : JE X (.Call (.Name x p) (e :: es) [] pos) (dBi r ts) := by
  obtain ⟨R, hC, hR⟩ := hc
  exact (pe_callB hC hg hm hv ha hn hdb he hpl).imp fun _ _ _ h => lift_bi hR h
theorem je_bty {x : Str} {T : String} {r : DRB} {p : Pos} (hc : BiD X (.type T) r) (hg : Gl X x) (hm : X.mg x = none) (hv : bootBuiltins x = some (.type T)) (ha : JA X (e :: es) ts) (hn : x ≠ "__name__" := by decide) (hdb : (x == ("__debug__" : Str)) = false := by decide)
    (he : starEach (e :: es) X.env = (false, eval e X.env) :: starEach es X.env := by rfl) (hpl : (backTo pos (starEach es X.env)).any (·.1) = false := by rfl) : JE X (.Call (.Name x p) (e :: es) [] pos) (dBi r ts) := by
  obtain ⟨R, hC, hR⟩ := hc
  exact (pe_callTy hC hg hm hv ha hn hdb he hpl).imp fun _ _ _ h => lift_bi hR h
theorem rb1 {K : PySem.W.Frag} {F H : Hp} {x : Dt} {us : List V} (r : RepBs K F H [x] us) : ∃ u, us = [u] ∧ RepB K F H x u := by
  obtain ⟨u, r', rfl, h1, h2⟩ := r
  have e : r' = [] := h2
  rw [e]
  exact ⟨u, rfl, h1⟩
def bLen : DRB := fun xs P => match xs with
  | [.lst ys] => P (.int ys.length)
  | [.tup ys] => P (.int ys.length)
  | [.str s] => s.length ≤ sizeLine ∧ P (.int s.length)
  | _ => False
theorem b_len : BiD X (.builtin "len") bLen := ⟨_, L2.call_len, fun W F A m σ H xs us P Q G rs q c => by
  unfold bLen at q
  split at q
  · obtain ⟨u, rfl, ru⟩ := rb1 rs
    obtain ⟨l, vs, rfl, hl, rl⟩ := ru
    rw [rl.length] at q
    exact ⟨_, vs.length, rfl, .inl ⟨vs, .inl hl, rfl⟩, c F H _ _ (Same.refl _) G rep_int q⟩
  · obtain ⟨u, rfl, ru⟩ := rb1 rs
    obtain ⟨l, vs, rfl, hl, rl⟩ := repB_tup ru
    rw [rl.length] at q
    exact ⟨_, vs.length, rfl, .inr ⟨vs, seqT_mono G.ext hl, rfl⟩, c F H _ _ (Same.refl _) G rep_int q⟩
  · obtain ⟨u, rfl, ru⟩ := rb1 rs
    rw [repB_str ru]
    exact ⟨_, _, rfl, ⟨q.1, rfl⟩, c F H _ _ (Same.refl _) G rep_int q.2⟩
  · exact q.elim⟩
def bAbs : DRB := fun xs P => match xs with
  | [.int i] => P (.int (if i < 0 then -i else i))
  | _ => False
theorem b_abs : BiD X (.builtin "abs") bAbs := ⟨_, L2.call_abs, fun W F A m σ H xs us P Q G rs q c => by
  unfold bAbs at q
  split at q
  · obtain ⟨u, rfl, ru⟩ := rb1 rs
    rw [repB_int ru]
    exact ⟨_, rfl, c F H _ _ (Same.refl _) G rep_int q⟩
  · exact q.elim⟩
def bInt : DRB := fun xs P => match xs with
  | [.int i] => P (.int i)
  | [.bl k] => P (.int (if k then 1 else 0))
  | _ => False
theorem b_int : BiD X (.type "int") bInt := ⟨_, L2.call_int1, fun W F A m σ H xs us P Q G rs q c => by
  unfold bInt at q
  split at q
  · obtain ⟨u, rfl, ru⟩ := rb1 rs
    rw [repB_int ru]
    exact .inl ⟨_, rfl, c F H _ _ (Same.refl _) G rep_int q⟩
  · obtain ⟨u, rfl, ru⟩ := rb1 rs
    rw [repB_bl ru]
    exact .inr ⟨_, rfl, c F H _ _ (Same.refl _) G rep_int q⟩
  · exact q.elim⟩
/-- list(x), tuple(x) of lists and tuples, plain -/
def bList : DRB := fun xs P => match xs with
  | [.lst ys] => P (.lst ys)
  | [.tup ys] => P (.lst ys)
  | _ => False
def bTuple : DRB := fun xs P => match xs with
  | [.lst ys] => P (.tup ys)
  | [.tup ys] => P (.tup ys)
  | _ => False
theorem lst_laid {K : PySem.W.Frag} {W F : Hp} {A : List Addr} {m : M} {σ : L2.St} {H : Hp} {T : Addr} {ds : List Dt} {vs : List V} (G : Good K W F A m σ H) (n : H T = none) (r : Reps K F ds vs) : ∃ F2, Same F F2 ∧ Good K W F2 A m σ (upd H T (.lst vs)) ∧ Rep K F2 (.lst ds) (.ref T) := by
  have s := same_upd (o := .lst vs) (G.ext.free n)
  refine ⟨upd F T (.lst vs), s, G.laid n, ?_⟩
  simp only [Rep]
  exact ⟨T, vs, rfl, Rd.of upd_same, Reps.mono s r⟩
theorem b_list : BiD X (.type "list") bList := ⟨_, L2.call_list_of, fun W F A m σ H xs us P Q G rs q c => by
  unfold bList at q
  split at q
  · obtain ⟨u, rfl, ru⟩ := rb1 rs
    obtain ⟨l, vs, rfl, hl, rl⟩ := ru
    refine ⟨l, vs, rfl, .inl (.inl hl), fun p np => ?_⟩
    obtain ⟨F2, s2, G2, r2⟩ := lst_laid G np rl
    exact c F2 _ _ _ s2 G2 r2 q
  · obtain ⟨u, rfl, ru⟩ := rb1 rs
    obtain ⟨l, vs, rfl, hl, rl⟩ := repB_tup ru
    refine ⟨l, vs, rfl, .inr (seqT_mono G.ext hl), fun p np => ?_⟩
    obtain ⟨F2, s2, G2, r2⟩ := lst_laid G np rl
    exact c F2 _ _ _ s2 G2 r2 q
  · exact q.elim⟩
theorem b_tuple : BiD X (.type "tuple") bTuple := ⟨_, L2.call_tuple_of, fun W F A m σ H xs us P Q G rs q c => by
  unfold bTuple at q
  split at q
  · obtain ⟨u, rfl, ru⟩ := rb1 rs
    obtain ⟨l, vs, rfl, hl, rl⟩ := ru
    refine ⟨l, vs, rfl, .inl ⟨.inl hl, fun p np => ?_⟩⟩
    obtain ⟨F2, s2, G2, r2⟩ := tup_laid G np rl
    exact c F2 _ _ _ s2 G2 r2 q
  · obtain ⟨u, rfl, ru⟩ := rb1 rs
    have ru' := ru
    obtain ⟨l, vs, rfl, hl, rl⟩ := repB_tup ru
    exact ⟨l, vs, rfl, .inr ⟨seqT_mono G.ext hl, c F H _ _ (Same.refl _) G ru' q⟩⟩
  · exact q.elim⟩
/-- list(x) as a list of one's own -/
def dListO (ts : DA) : DE := fun m Q => ts m fun vs m1 => onVs m1 vs fun xs => bList xs fun z => match z with
  | .lst ys => Q (.c m1.st.length) ⟨m1.sl, m1.st ++ [.lst ys]⟩
  | _ => False
theorem je_listO {x : Str} {p : Pos} (hg : Gl X x) (hm : X.mg x = none) (hv : bootBuiltins x = some (.type "list")) (ha : JA X (e :: es) ts) (hn : x ≠ "__name__" := by decide) (hdb : (x == ("__debug__" : Str)) = false := by decide)
    (he : starEach (e :: es) X.env = (false, eval e X.env) :: starEach es X.env := by rfl) (hpl : (backTo pos (starEach es X.env)).any (·.1) = false := by rfl) : JE X (.Call (.Name x p) (e :: es) [] pos) (dListO ts) := by
  refine (pe_callTy L2.call_list_of hg hm hv ha hn hdb he hpl).imp fun σ H Q hh => ?_
  obtain ⟨W, F, A, m, Qd, G, h, c⟩ := hh
  refine ⟨W, F, A, m, _, G, h, fun F1 A1 vs m1 H1 s1 p1 G1 q1 us r1 => ?_⟩
  obtain ⟨xs, rs, q⟩ := onVs_elim G1 r1 q1
  have fin : ∀ {ys : List Dt} {ws : List V}, Reps X.K F1 ys ws → (Qd (.c m1.st.length) ⟨m1.sl, m1.st ++ [.lst ys]⟩) → ∀ l, H1 l = none → Q (.ref l) (upd H1 l (.lst ws)) := fun {ys ws} r q p np =>
    c F1 (A1 ++ [p]) _ _ _ s1 (p1.trans ⟨[p], rfl⟩) (G1.own np r) q _ ⟨p, by rw [← G1.len]; simp, rfl⟩
  unfold bList at q
  split at q
  · obtain ⟨u, rfl, ru⟩ := rb1 rs
    obtain ⟨l, vs, rfl, hl, rl⟩ := ru
    exact ⟨l, vs, rfl, .inl (.inl hl), fin rl q⟩
  · obtain ⟨u, rfl, ru⟩ := rb1 rs
    obtain ⟨l, vs, rfl, hl, rl⟩ := repB_tup ru
    exact ⟨l, vs, rfl, .inr (seqT_mono G1.ext hl), fin rl q⟩
  · exact q.elim
/-- sum of a list of ints -/
def sumI : List Dt → Option Int
  | [] => some 0
  | .int i :: r => (sumI r).map (i + ·)
  | _ :: _ => none
theorem sumI_of {K : PySem.W.Frag} {F : Hp} : ∀ {ds : List Dt} {vs : List V} {n : Int}, Reps K F ds vs → sumI ds = some n → ∃ ns : List Int, vs = ns.map V.int ∧ ns.sum = n
  | [], vs, n, r, h => by
    simp only [Reps] at r
    unfold sumI at h
    cases h
    exact ⟨[], by rw [r]; rfl, rfl⟩
  | d :: ds, vs, n, r, h => by
    simp only [Reps] at r
    obtain ⟨v, vs', rfl, r1, r2⟩ := r
    cases d with
    | int i =>
      unfold sumI at h
      cases q : sumI ds with
      | none =>
        rw [q] at h
        cases h
      | some k =>
        rw [q] at h
        have e : i + k = n := Option.some.inj h
        obtain ⟨ns, e1, e2⟩ := sumI_of r2 q
        simp only [Rep] at r1
        exact ⟨i :: ns, by rw [r1, e1]; rfl, by rw [List.sum_cons, e2, e]⟩
    | _ => simp [sumI] at h
def bSum : DRB := fun xs P => match xs with
  | [.lst ys] => match sumI ys with
    | some n => P (.int n)
    | none => False
  | _ => False
theorem b_sum (hc : X.calm = true) : BiD X (.builtin "sum") bSum := ⟨_, cr_sum hc, fun W F A m σ H xs us P Q G rs q c => by
  unfold bSum at q
  split at q
  · obtain ⟨u, rfl, ru⟩ := rb1 rs
    obtain ⟨l, vs, rfl, hl, rl⟩ := ru
    split at q
    · rename_i n e
      obtain ⟨ns, rfl, es⟩ := sumI_of rl e
      refine ⟨l, ns, rfl, .inl hl, ?_⟩
      rw [es]
      exact c F H _ _ (Same.refl _) G rep_int q
    · exact q.elim
  · exact q.elim⟩

/-! ### isinstance(e, T) -/
def tyName : Dt → String
  | .non => "NoneType"
  | .bl _ => "bool"
  | .int _ => "int"
  | .str _ => "str"
  | .tup _ => "tuple"
  | .lst _ => "list"
theorem tyx_of {K : PySem.W.Frag} {F H : Hp} (s : Same F H) {x : Dt} {u : V} (r : RepB K F H x u) : TyX K H u (.type (tyName x)) := by
  cases x with
  | non =>
    rw [repB_non r]
    exact .base .non
  | bl b =>
    rw [repB_bl r]
    exact .base (.bl b)
  | int i =>
    rw [repB_int r]
    exact .base (.int i)
  | str z =>
    rw [repB_str r]
    exact .base (.str z)
  | lst ds =>
    obtain ⟨l, vs, rfl, hl, _⟩ := r
    rcases hl with h | ⟨o, h⟩
    · exact .base (.lst h)
    · exact .base (.frz h)
  | tup ds =>
    obtain ⟨l, vs, rfl, hl, _⟩ := repB_tup r
    rcases seqT_mono s hl with (h | ⟨o, h⟩) | ⟨o, its, n, h1, h2, _⟩
    · exact .base (.tup h)
    · exact .fTuple h
    · exact .kTuple h1 h2
inductive Ty where
  | tuple | int | bool | list | str
def Ty.name : Ty → String
  | .tuple => "tuple"
  | .int => "int"
  | .bool => "bool"
  | .list => "list"
  | .str => "str"
def isTy : Ty → Dt → Bool
  | .tuple, .tup _ => true
  | .int, .int _ => true
  | .int, .bl _ => true
  | .bool, .bl _ => true
  | .list, .lst _ => true
  | .str, .str _ => true
  | _, _ => false
def isTyN (T : Ty) (n : String) : Bool := match T with
  | .tuple => n == "tuple"
  | .int => n == "int" || n == "bool"
  | .bool => n == "bool"
  | .list => n == "list"
  | .str => n == "str"
theorem kit_0 (T : Ty) : kitB "NoneType" T.name = some (isTyN T "NoneType") := by cases T <;> decide +kernel
theorem kit_1 (T : Ty) : kitB "bool" T.name = some (isTyN T "bool") := by cases T <;> decide +kernel
theorem kit_2 (T : Ty) : kitB "int" T.name = some (isTyN T "int") := by cases T <;> decide +kernel
theorem kit_3 (T : Ty) : kitB "str" T.name = some (isTyN T "str") := by cases T <;> decide +kernel
theorem kit_4 (T : Ty) : kitB "tuple" T.name = some (isTyN T "tuple") := by cases T <;> decide +kernel
theorem kit_5 (T : Ty) : kitB "list" T.name = some (isTyN T "list") := by cases T <;> decide +kernel
theorem isTyN_of (T : Ty) (x : Dt) : isTyN T (tyName x) = isTy T x := by
  cases T <;> cases x <;> rfl
theorem isi_ok (T : Ty) (x : Dt) : kitB (tyName x) T.name = some (isTy T x) := by
  rw [← isTyN_of]
  cases x
  · exact kit_0 T
  · exact kit_1 T
  · exact kit_2 T
  · exact kit_3 T
  · exact kit_4 T
  · exact kit_5 T
def dIsi (T : Ty) (t : DE) : DE := fun m Q => t m fun v m1 => onV m1 v fun x => Q (.d (.bl (isTy T x))) m1
theorem je_isi (T : Ty) {Tn : Str} {p p2 : Pos} (hg : Gl X "isinstance") (hm : X.mg "isinstance" = none) (hgT : Gl X Tn) (hmT : X.mg Tn = none) (hvT : bootBuiltins Tn = some (.type T.name)) (ha : JE X e t)
    (hnT : Tn ≠ "__name__" := by decide) (hdT : (Tn == ("__debug__" : Str)) = false := by decide)
    (he : starEach (e :: [.Name Tn p2]) X.env = (false, eval e X.env) :: starEach [.Name Tn p2] X.env := by rfl) (hpl : (backTo pos (starEach [.Name Tn p2] X.env)).any (·.1) = false := by rfl) :
    JE X (.Call (.Name "isinstance" p) [e, .Name Tn p2] [] pos) (dIsi T t) := by
  have hT' : PE X (.Name Tn p2) (tC (.ty T.name)) := pe_bltn hgT hmT hvT rfl hnT hdT
  refine (pe_callB call_isi hg hm (by decide +kernel) (pa_cons ha (pa_cons hT' pa_nil) he) (by decide) (by decide) he hpl).imp fun σ H Q hh => ?_
  obtain ⟨W, F, A, m, Qd, G, h, c⟩ := hh
  refine ⟨W, F, A, m, _, G, h, fun F1 A1 v m1 H1 s1 p1 G1 q1 u r1 => ?_⟩
  obtain ⟨x, ex, q⟩ := onV_elim q1
  exact ⟨u, .ty T.name, .type (tyName x), .type T.name, isTy T x, rfl, .ty T.name, tyx_of G1.ext (G1.view r1 ex), kit_ty (isi_ok T x), c F1 A1 _ m1 H1 s1 p1 G1 q _ rv_bl⟩
end
end RT

set_option maxRecDepth 100000
set_option maxHeartbeats 4000000
namespace RT
open PySem PySem.Spec PyProof.Rows L2
section
variable {X : Cx} {a b e o : Expr} {es : List Expr} {ta tb t to : DE} {ts : DA} {pos : Pos}

/-! ### slices -/
abbrev DO := M → (Option Int → M → Prop) → Prop
def liftO (K : PySem.W.Frag) (t : DO) : TO := fun σ H Q => ∃ W F A m Qd, Good K W F A m σ H ∧ t m Qd ∧ After K W F A σ Qd fun _ _ b H' => Q b H'
abbrev JO (X : Cx) (e : Option Expr) (t : DO) : Prop := PO X e (liftO X.K t)
theorem _root_.L2.PO.imp {X : Cx} {e : Option Expr} {t t' : TO} (h : PO X e t) (f : ∀ σ H Q, t' σ H Q → t σ H Q) : PO X e t' := ⟨fun pins s σ H Q I q => h.run pins s σ H Q I (f _ _ _ q)⟩
def dNoP : DO := fun m Q => Q none m
def dPart (t : DE) : DO := fun m Q => t m fun v m1 => match v with
  | .d (.int i) => Q (some i) m1
  | _ => False
theorem jo_none : JO X none dNoP := po_none.imp fun σ H Q ⟨W, F, A, m, Qd, G, h, c⟩ => c F A none m H (Same.refl _) (pre_refl _) G h
theorem int_elim {v : Vl} {P : Int → Prop} (h : match v with
  | .d (.int i) => P i
  | _ => False) : ∃ i, v = .d (.int i) ∧ P i := by
  split at h
  · exact ⟨_, rfl, h⟩
  · exact h.elim
theorem jo_some (h : JE X e t) : JO X (some e) (dPart t) := by
  refine (po_some h).imp fun σ H Q hh => ?_
  obtain ⟨W, F, A, m, Qd, G, h, c⟩ := hh
  refine ⟨W, F, A, m, _, G, h, fun F1 A1 v m1 H1 s1 p1 G1 q1 u r1 => ?_⟩
  obtain ⟨i, rfl, q⟩ := int_elim q1
  exact ⟨i, repB_int (H := H1) r1, c F1 A1 _ m1 H1 s1 p1 G1 q⟩
def cutD (xs : List Dt) (lo hi : Option Int) : List Dt := (xs.drop (HT.sIx xs.length 0 lo)).take (HT.sIx xs.length xs.length hi - HT.sIx xs.length 0 lo)
theorem reps_cut {K : PySem.W.Frag} {F : Hp} {xs : List Dt} {vs : List V} (r : Reps K F xs vs) (lo hi : Option Int) : Reps K F (cutD xs lo hi) (cutV vs lo hi) := by
  unfold cutD cutV
  rw [r.length]
  exact (r.drop _).take _
theorem cut_whole {K : PySem.W.Frag} {F : Hp} {xs : List Dt} {vs : List V} (r : Reps K F xs vs) {lo hi : Option Int} (h : HT.sIx vs.length 0 lo = 0 ∧ HT.sIx vs.length vs.length hi = vs.length) : cutD xs lo hi = xs := by
  unfold cutD
  rw [r.length, h.1, h.2, ← r.length]
  simp
/-- a slice of a list (plain, or one's own; the result plain, or one's own) or of a tuple -/
def dSl (own : Bool) (t : DE) (lo hi : DO) : DE := fun m Q => t m fun v m1 => lo m1 fun l m2 => hi m2 fun h m3 => onV m3 v fun x => match x with
  | .lst xs => if own = true then Q (.c m3.st.length) ⟨m3.sl, m3.st ++ [.lst (cutD xs l h)]⟩ else Q (.d (.lst (cutD xs l h))) m3
  | .tup xs => Q (.d (.tup (cutD xs l h))) m3
  | _ => False
theorem je_sl (own : Bool) {lo hi : Option Expr} {tl th : DO} {p2 : Pos} (he : JE X e t) (hl : JO X lo tl) (hu : JO X hi th) : JE X (.Subscript e (.Slice lo hi none p2) pos) (dSl own t tl th) := by
  refine (pe_slice (sl_list.or sl_tupA) he hl hu).imp fun σ H Q hh => ?_
  obtain ⟨W, F, A, m, Qd, G, h, c⟩ := hh
  refine ⟨W, F, A, m, _, G, h, fun F1 A1 v m1 H1 s1 p1 G1 q1 u r1 => ⟨W, F1, A1, m1, _, G1, q1, fun F2 A2 l m2 H2 s2 p2 G2 q2 => ⟨W, F2, A2, m2, _, G2, q2, fun F3 A3 h m3 H3 s3 p3 G3 q3 => ?_⟩⟩⟩
  obtain ⟨x, ex, q3⟩ := onV_elim q3
  have rx := G3.view (RepV.mono (s2.trans s3) (p2.trans p3) r1) ex
  have s13 := s1.trans (s2.trans s3)
  have p13 := p1.trans (p2.trans p3)
  cases x with
  | lst xs =>
    obtain ⟨a, vs, rfl, hd, rs⟩ := rx
    refine .inl ⟨a, vs, rfl, .inl hd, fun p np => ?_⟩
    have q4 : if own = true then Qd (.c m3.st.length) ⟨m3.sl, m3.st ++ [.lst (cutD xs l h)]⟩ else Qd (.d (.lst (cutD xs l h))) m3 := q3
    have rc := reps_cut rs l h
    cases own with
    | true => exact c F3 (A3 ++ [p]) _ _ _ s13 (p13.trans ⟨[p], rfl⟩) (G3.own np rc) q4 _ ⟨p, by rw [← G3.len]; simp, rfl⟩
    | false =>
      obtain ⟨F4, s4, G4, r4⟩ := lst_laid G3 np rc
      exact c F4 A3 _ m3 _ (s13.trans s4) p13 G4 q4 _ r4
  | tup xs =>
    have rx' := rx
    obtain ⟨a, vs, rfl, hd, rs⟩ := repB_tup rx
    refine .inr ⟨a, vs, rfl, seqT_mono G3.ext hd, fun hw => ?_, fun hw p np => ?_⟩
    · have q4 : Qd (.d (.tup (cutD xs l h))) m3 := q3
      rw [cut_whole rs hw] at q4
      exact c F3 A3 _ m3 _ s13 p13 G3 q4 _ rx'
    · obtain ⟨F4, s4, G4, r4⟩ := tup_laid G3 np (reps_cut rs l h)
      exact c F4 A3 _ m3 _ (s13.trans s4) p13 G4 q3 _ r4
  | _ => exact (show False from q3).elim

/-! ### a list of one's own is changed by its methods -/
abbrev MOp := List Dt → List Dt → (List Dt → Dt → Prop) → Prop
def dMeth (op : MOp) (to : DE) (ts : DA) : DE := fun m Q => to m fun v m1 => match v with
  | .c k => (∃ zs, m1.st[k]? = some (.lst zs)) ∧ ts m1 fun vs m2 => onDs vs fun ys => onC m2.st k fun xs => op xs ys fun xs' r => Q (.d r) ⟨m2.sl, m2.st.set k (.lst xs')⟩
  | _ => False
def MetD (X : Cx) (id : String) (op : MOp) : Prop := ∃ R, MtR X id R ∧ ∀ (F H : Hp) (a : Addr) (xs ys : List Dt) (vs us : List V) (P : List Dt → Dt → Prop) (Q : VK), H a = some (.lst vs) → Reps X.K F xs vs → Reps X.K F ys us → op xs ys P →
  (∀ xs' ws r u, Reps X.K F xs' ws → Rep X.K F r u → P xs' r → Q u (upd H a (.lst ws))) → R (.ref a) us H Q
theorem cell_elim {v : Vl} {P : Nat → Prop} (h : match v with
  | .c k => P k
  | _ => False) : ∃ k, v = .c k ∧ P k := by
  split at h
  · exact ⟨_, rfl, h⟩
  · exact h.elim
theorem st_elim {o : Option Cell} {P : List Dt → Prop} (h : match o with
  | some (.lst xs) => P xs
  | _ => False) : ∃ xs, o = some (.lst xs) ∧ P xs := by
  split at h
  · exact ⟨_, rfl, h⟩
  · exact h.elim
theorem je_meth {op : MOp} {id : String} {name : Str} {apos cpos : Pos} (slot : Slot "list" name id) (hty : typeOf (.builtin id) = pure (.type "method_descriptor")) (hm : MetD X id op) (ho : JE X o to) (ha : JA X (e :: es) ts)
    (hbase : attributeBase o name X.env (eval o X.env) = eval o X.env := by rfl)
    (hfew : ((backTo cpos (starEach (e :: es) X.env)).all (fun x => !x.1) && (backToKw cpos (keywordEach [] X.env)).all (fun x => x.1.isSome)
      && decide ((e :: es).length + ([] : List Keyword).length + (if ([] : List Keyword).isEmpty then 0 else 1) < 30)) = true := by rfl)
    (hline : (apos.endLine == cpos.line) = true := by rfl) (hs : starEach (e :: es) X.env = (false, eval e X.env) :: starEach es X.env := by rfl) (hplain : (backTo cpos (starEach es X.env)).any (·.1) = false := by rfl) :
    JE X (.Call (.Attribute o name apos) (e :: es) [] cpos) (dMeth op to ts) := by
  obtain ⟨R, hR, hv⟩ := hm
  refine (pe_bm PySem.F.plainAttrs_list slot hty hR ho ha hbase hfew hline hs hplain).imp fun σ H Q hh => ?_
  obtain ⟨W, F, A, m, Qd, G, h, c⟩ := hh
  refine ⟨W, F, A, m, _, G, h, fun F1 A1 v m1 H1 s1 p1 G1 q1 u r1 => ?_⟩
  obtain ⟨k, rfl, ⟨zs, ez⟩, q1⟩ := cell_elim q1
  obtain ⟨a, ha', rfl⟩ := r1
  obtain ⟨a', ws, h1, h2, _, _⟩ := G1.st k zs ez
  rw [ha'] at h1
  cases h1
  refine ⟨.inl ⟨rfl, _, SqL.of h2⟩, W, F1, A1, m1, _, G1, q1, fun F2 A2 vs m2 H2 s2 p2 G2 q2 us r2 => ?_⟩
  obtain ⟨ys, rfl, q3⟩ := onDs_elim q2
  obtain ⟨xs, ex, q2⟩ := onC_elim q3
  obtain ⟨a', vs', g1, g2, g3, _⟩ := G2.st k xs ex
  obtain ⟨_, hka, ek⟩ := RepV.mono (K := X.K) s2 p2 (show RepV X.K F1 A1 (.c k) (.ref a) from ⟨a, ha', rfl⟩)
  cases ek
  rw [hka] at g1
  cases g1
  exact hv F2 H2 a xs ys vs' us _ Q g2 g3 (reps_of r2) q2 fun xs' ws r u rw' ru pq => c F2 A2 (.d r) _ _ (s1.trans s2) (p1.trans p2) (G2.write ex hka rw') pq u ru
theorem je_meth0 {op : MOp} {id : String} {name : Str} {apos cpos : Pos} (slot : Slot "list" name id) (hty : typeOf (.builtin id) = pure (.type "method_descriptor")) (hm : MetD X id op) (ho : JE X o to)
    (hbase : attributeBase o name X.env (eval o X.env) = eval o X.env := by rfl) (hline : (apos.endLine == cpos.line) = true := by rfl) :
    JE X (.Call (.Attribute o name apos) [] [] cpos) (dMeth op to dNil) := by
  obtain ⟨R, hR, hv⟩ := hm
  refine (pe_bm0 PySem.F.plainAttrs_list slot hty hR ho hbase hline).imp fun σ H Q hh => ?_
  obtain ⟨W, F, A, m, Qd, G, h, c⟩ := hh
  refine ⟨W, F, A, m, _, G, h, fun F1 A1 v m1 H1 s1 p1 G1 q1 u r1 => ?_⟩
  obtain ⟨k, rfl, ⟨zs, ez⟩, q1⟩ := cell_elim q1
  obtain ⟨a, ha', rfl⟩ := r1
  have q2 : onC m1.st k fun xs => op xs [] fun xs' r => Qd (.d r) ⟨m1.sl, m1.st.set k (.lst xs')⟩ := q1
  obtain ⟨xs, ex, q2⟩ := onC_elim q2
  obtain ⟨a', vs', g1, g2, g3, _⟩ := G1.st k xs ex
  rw [ha'] at g1
  cases g1
  exact ⟨.inl ⟨rfl, _, SqL.of g2⟩, hv F1 H1 a xs [] vs' [] _ Q g2 g3 .nil q2 fun xs' ws r u rw' ru pq => c F1 A1 (.d r) _ _ s1 p1 (G1.write ex ha' rw') pq u ru⟩
theorem reps1 {K : PySem.W.Frag} {F : Hp} {y : Dt} {us : List V} (r : Reps K F [y] us) : ∃ u, us = [u] ∧ Rep K F y u := by
  simp only [Reps] at r
  obtain ⟨u, r', rfl, h1, rfl⟩ := r
  exact ⟨u, rfl, h1⟩
def mAppend : MOp := fun xs ys P => match ys with
  | [y] => xs.length < sizeLine ∧ P (xs ++ [y]) .non
  | _ => False
theorem m_append : MetD X "list.append" mAppend := ⟨_, mt_append, fun F H a xs ys vs us P Q hH r r' q c => by
  unfold mAppend at q
  split at q
  · obtain ⟨u, rfl, ru⟩ := reps1 r'
    exact ⟨a, vs, u, rfl, rfl, hH, by rw [← r.length]; exact q.1, c _ _ .non .non (r.append (.cons ru .nil)) rep_non q.2⟩
  · exact q.elim⟩
def mReverse : MOp := fun xs ys P => match ys with
  | [] => P xs.reverse .non
  | _ => False
theorem Reps.reverse {K : PySem.W.Frag} {F : Hp} : ∀ {xs : List Dt} {vs : List V}, Reps K F xs vs → Reps K F xs.reverse vs.reverse
  | [], vs, r => by
    simp only [Reps] at r
    rw [r]
    exact .nil
  | x :: xs, vs, r => by
    simp only [Reps] at r
    obtain ⟨v, r', rfl, h1, h2⟩ := r
    rw [List.reverse_cons, List.reverse_cons]
    exact (Reps.reverse h2).append (.cons h1 .nil)
theorem m_reverse : MetD X "list.reverse" mReverse := ⟨_, mt_reverse, fun F H a xs ys vs us P Q hH r r' q c => by
  unfold mReverse at q
  split at q
  · simp only [Reps] at r'
    exact ⟨a, vs, rfl, r', hH, c _ _ .non .non r.reverse rep_non q⟩
  · exact q.elim⟩
/-- a place that is there -/
def onJ (o : Option Nat) (P : Nat → Prop) : Prop := match o with
  | some j => P j
  | none => False
theorem onJ_elim {o : Option Nat} {P : Nat → Prop} (h : onJ o P) : ∃ j, o = some j ∧ P j := by
  cases o with
  | none => exact h.elim
  | some j => exact ⟨j, rfl, h⟩
/-- xs[i] = e, xs a list of one's own -/
def dSetIx (te to ti : DE) : DS := fun E m => te m fun v m1 => onD v fun d => to m1 fun w m2 => ti m2 fun u m3 => match w with
  | .c k => match u with
    | .d (.int i) => onC m3.st k fun xs => onJ (ixN xs.length i) fun j => E.nx ⟨m3.sl, m3.st.set k (.lst (xs.set j d))⟩
    | _ => False
  | _ => False
theorem js_setIx {te ti : DE} {tg : Expr} (he : JE X e te) (hg : PG X tg (gSub (lift X.K to) (lift X.K ti) rSetL))
    (hs : swapsWithSole [tg] e pos.line X.env = pure false := by rfl) (hw : swappedStores [tg] e X.env = pure none := by rfl)
    (h1 : (assignEach [tg] X.env).map (·.2) = [assign tg X.env] := by rfl) : JS X (.Assign [tg] e pos) (dSetIx te to ti) := by
  refine (ps_asg he hg hs hw h1).imp fun D σ H hh => ?_
  obtain ⟨W, F, A, m, E, G, h, c⟩ := hh
  refine ⟨W, F, A, m, _, G, h, fun F1 A1 v m1 H1 s1 p1 G1 q1 u r1 => ?_⟩
  obtain ⟨d, rfl, q1⟩ := onD_elim q1
  refine ⟨W, F1, A1, m1, _, G1, q1, fun F2 A2 w m2 H2 s2 p2 G2 q2 u2 r2 => ⟨W, F2, A2, m2, _, G2, q2, fun F3 A3 z m3 H3 s3 p3 G3 q3 u3 r3 => ?_⟩⟩
  obtain ⟨k, rfl, q3⟩ := cell_elim q3
  obtain ⟨i, rfl, q3⟩ := int_elim q3
  obtain ⟨xs, ex, q3⟩ := onC_elim q3
  obtain ⟨j, ej, q3⟩ := onJ_elim q3
  · obtain ⟨a, hka, rfl⟩ := RepV.mono s3 p3 r2
    obtain ⟨a', vs, g1, g2, g3, _⟩ := G3.st k xs ex
    rw [hka] at g1
    cases g1
    refine ⟨a, vs, i, j, rfl, repB_int (H := H3) r3, g2, by rw [← g3.length]; exact ej, ?_⟩
    have rd : Rep X.K F3 d u := Rep.mono (s2.trans s3) r1
    exact c.nx F3 A3 _ σ _ (s1.trans (s2.trans s3)) (p1.trans (p2.trans p3)) (G3.write ex hka (Reps.set rd j g3)) q3
end

/-! ### comprehensions -/
/-- what was made so far; the outer names are as they were -/
def dLcGo (sl : List (Option Vl)) (slw : List (Option Vl)) (g : Tgt) (tt : DT) (te : DE) (all : List Dt) (lk : Option Nat) (K : List Dt → M → Prop) : List Dt → List Dt → List Cell → Prop
  | [], acc, st => lockOk lk all ⟨sl, st⟩ ∧ K acc ⟨sl, st⟩
  | x :: xs, acc, st => lockOk lk all ⟨sl, st⟩ ∧ tgD g (.d x) ⟨slw, st⟩ fun m1 => tt m1 fun b m2 => if b = true then te m2 fun v m3 => onD v fun d => acc.length < sizeLine ∧ dLcGo sl slw g tt te all lk K xs (acc ++ [d]) m3.st
    else dLcGo sl slw g tt te all lk K xs acc m2.st
def wipeD (sl : List (Option Vl)) : List Nat → List (Option Vl)
  | [] => sl
  | v :: vs => (wipeD sl vs).set v none
def dYes : DT := fun m Q => Q true m
/-- [te for g in di if tt]: plain, or one's own -/
def dLc (own : Bool) (di : DI) (g : Tgt) (tt : DT) (te : DE) (vs : List Nat) : DE := fun m Q => di m fun xs lk m1 => dLcGo m1.sl (wipeD m1.sl vs) g tt te xs lk (fun acc m2 => if own = true then Q (.c m2.st.length) ⟨m2.sl, m2.st ++ [.lst acc]⟩ else Q (.d (.lst acc)) m2) xs [] m1.st
theorem Good.wipe {K : PySem.W.Frag} {W F : Hp} {A : List Addr} {m : M} {σ : L2.St} {H : Hp} (G : Good K W F A m σ H) : ∀ vs : List Nat, Good K W F A ⟨wipeD m.sl vs, m.st⟩ (L2.wipe σ vs) H
  | [] => G
  | v :: vs => by
    have G1 := G.wipe vs
    refine ⟨G1.ext, G1.hid, G1.dj, by show ((wipeD m.sl vs).set v none).length = ((L2.wipe σ vs).set v none).length; rw [List.length_set, List.length_set]; exact G1.slen, fun i w e => ?_, G1.len, G1.st, G1.nd, G1.tb⟩
    have e' : ((wipeD m.sl vs).set v none)[i]? = some (some w) := e
    rw [List.getElem?_set] at e'
    show ∃ u : V, ((L2.wipe σ vs).set v none)[i]? = some (some u) ∧ _
    rw [List.getElem?_set]
    by_cases hv : v = i
    · rw [if_pos hv] at e'
      split at e' <;> cases e'
    · rw [if_neg hv] at e' ⊢
      exact G1.sl i w e'
section
variable {K : PySem.W.Frag} {W F F' : Hp} {A A' : List Addr} {m : M} {σ : L2.St} {H H' : Hp} {D : Addr} {o o' : HO}
/-- a new object is laid and hidden -/
theorem Good.hide (G : Good K W F A m σ H) (n : H D = none) : Good K (upd W D o) F A m σ (upd H D o) := by
  refine ⟨G.ext.trans (same_upd n), same_upd2 G.hid, fun b x e => ?_, G.slen, G.sl, G.len, fun k xs e => ?_, G.nd, fun q hq => ⟨tab_upd (G.tb q hq).1 n, (G.tb q hq).2.1, by rw [upd_ne (tab_some (G.tb q hq).1 n)]; exact (G.tb q hq).2.2⟩⟩
  · by_cases hb : b = D
    · rw [hb]
      exact G.ext.free n
    · rw [upd_ne hb] at e
      exact G.dj b x e
  · obtain ⟨a, vs, h1, h2, h3, h4, h5⟩ := G.st k xs e
    have ne : a ≠ D := ne_of_none h2 n
    exact ⟨a, vs, h1, by rw [upd_ne ne]; exact h2, h3, h4, by rw [upd_ne ne]; exact h5⟩
/-- the hidden object is changed -/
theorem Good.rehide (G : Good K (upd W D o) F A m σ H) : Good K (upd W D o') F A m σ (upd H D o') := by
  have fD : F D = none := G.dj D o upd_same
  refine ⟨fun b x e => ?_, fun b x e => ?_, fun b x e => ?_, G.slen, G.sl, G.len, fun k xs e => ?_, G.nd, fun q hq => ?_⟩
  rotate_left 4
  · obtain ⟨⟨ps, t1, ok⟩, t2, t3⟩ := G.tb q hq
    have ne : q.2 ≠ D := fun z => by
      rw [z, upd_same] at t3
      cases t3
    exact ⟨⟨ps, by rw [upd_ne ne]; exact t1, ok⟩, t2, by rw [upd_ne ne] at t3 ⊢; exact t3⟩
  · have hb : b ≠ D := fun z => by
      rw [z, fD] at e
      cases e
    rw [upd_ne hb]
    exact G.ext _ _ e
  · by_cases hb : b = D
    · subst hb
      rw [upd_same] at e ⊢
      exact e
    · rw [upd_ne hb] at e ⊢
      exact G.hid b x (by rw [upd_ne hb]; exact e)
  · by_cases hb : b = D
    · rw [hb]
      exact fD
    · rw [upd_ne hb] at e
      exact G.dj b x (by rw [upd_ne hb]; exact e)
  · obtain ⟨a, vs, h1, h2, h3, h4, h5⟩ := G.st k xs e
    have ne : a ≠ D := fun z => by
      rw [z, upd_same] at h5
      cases h5
    exact ⟨a, vs, h1, by rw [upd_ne ne]; exact h2, h3, h4, by rw [upd_ne ne] at h5 ⊢; exact h5⟩
/-- the hidden list becomes plain data -/
theorem Good.show (G : Good K (upd W D (.lst us)) F A m σ H) (nW : W D = none) (r : Reps K F xs us) : Same F (upd F D (.lst us)) ∧ Good K W (upd F D (.lst us)) A m σ H ∧ Rep K (upd F D (.lst us)) (.lst xs) (.ref D) := by
  have fD : F D = none := G.dj D _ upd_same
  have s := same_upd (o := .lst us) fD
  have sW : Same W (upd W D (.lst us)) := same_upd nW
  refine ⟨s, ⟨fun b x e => ?_, sW.trans G.hid, fun b x e => ?_, G.slen, fun i v e => ?_, G.len, fun k xs e => ?_, G.nd, fun q hq => ?_⟩, ?_⟩
  rotate_left 4
  · obtain ⟨t1, t2, t3⟩ := G.tb q hq
    have ne : q.2 ≠ D := fun z => by
      rw [z, upd_same] at t3
      cases t3
    exact ⟨t1, by rw [upd_ne ne]; exact t2, by rw [upd_ne ne] at t3; exact t3⟩
  rotate_right 4
  · by_cases hb : b = D
    · subst hb
      rw [upd_same] at e
      cases e
      exact G.hid _ _ upd_same
    · rw [upd_ne hb] at e
      exact G.ext _ _ e
  · have hb : b ≠ D := fun z => by
      rw [z, nW] at e
      cases e
    rw [upd_ne hb]
    exact G.dj b x (sW _ _ e)
  · obtain ⟨u, h1, h2⟩ := G.sl i v e
    exact ⟨u, h1, RepV.mono s (pre_refl _) h2⟩
  · obtain ⟨a, vs, h1, h2, h3, h4, h5⟩ := G.st k xs e
    have ne : a ≠ D := fun z => by
      rw [z, upd_same] at h5
      cases h5
    rw [upd_ne ne] at h5
    exact ⟨a, vs, h1, h2, Reps.mono s h3, by rw [upd_ne ne]; exact h4, h5⟩
  · simp only [Rep]
    exact ⟨D, us, rfl, Rd.of upd_same, Reps.mono s r⟩
/-- the hidden list becomes one's own -/
theorem Good.showOwn (G : Good K (upd W D (.lst us)) F A m σ H) (nW : W D = none) (r : Reps K F xs us) : Good K W F (A ++ [D]) ⟨m.sl, m.st ++ [.lst xs]⟩ σ H := by
  have fD : F D = none := G.dj D _ upd_same
  have hD : H D = some (.lst us) := G.hid _ _ upd_same
  have sW : Same W (upd W D (.lst us)) := same_upd nW
  have pr : A <+: A ++ [D] := ⟨[D], rfl⟩
  have at_ : ∀ k, k < m.st.length → (A ++ [D])[k]? = A[k]? := fun k hk => List.getElem?_append_left (by rw [G.len]; exact hk)
  have lst_ : (A ++ [D])[m.st.length]? = some D := by rw [← G.len]; simp
  have old : ∀ k, k < m.st.length → (m.st ++ [Cell.lst xs])[k]? = m.st[k]? := fun k hk => List.getElem?_append_left hk
  have new : ∀ k c, ¬ k < m.st.length → (m.st ++ [Cell.lst xs])[k]? = some c → k = m.st.length ∧ c = .lst xs := fun k c hk e => by
    have hk2 := (List.getElem?_eq_some_iff.mp e).1
    rw [List.length_append, List.length_singleton] at hk2
    have ek : k = m.st.length := by omega
    subst ek
    rw [List.getElem?_append_right (Nat.le_refl _), Nat.sub_self] at e
    exact ⟨rfl, (Option.some.inj e).symm⟩
  have nA : ∀ k zs, k < m.st.length → (m.st ++ [Cell.lst xs])[k]? = some (.lst zs) → (A ++ [D])[k]? = some D → False := fun k zs hk e h => by
    obtain ⟨a', _, q1, _, _, _, q5⟩ := G.st k zs ((old k hk).symm.trans e)
    rw [at_ k hk, q1] at h
    cases h
    rw [upd_same] at q5
    cases q5
  refine ⟨G.ext, sW.trans G.hid, fun b x e => G.dj b x (sW _ _ e), G.slen, fun i v e => ?_, by simp [G.len], fun k ys e => ?_, fun j k ys zs a e1 e2 h1 h2 => ?_, fun q hq => ⟨(G.tb q hq).1, (G.tb q hq).2.1, by
    have t3 := (G.tb q hq).2.2
    have ne : q.2 ≠ D := fun z => by
      rw [z, upd_same] at t3
      cases t3
    rw [upd_ne ne] at t3
    exact t3⟩⟩
  · obtain ⟨u, h1, h2⟩ := G.sl i v e
    exact ⟨u, h1, RepV.mono (Same.refl _) pr h2⟩
  · by_cases hk : k < m.st.length
    · have e' : m.st[k]? = some (.lst ys) := (old k hk).symm.trans e
      obtain ⟨a, ws, h1, h2, h3, h4, h5⟩ := G.st k ys e'
      have ne : a ≠ D := fun z => by
        rw [z, upd_same] at h5
        cases h5
      rw [upd_ne ne] at h5
      exact ⟨a, ws, (at_ k hk).trans h1, h2, h3, h4, h5⟩
    · obtain ⟨ek, ec⟩ := new k _ hk e
      subst ek
      cases ec
      exact ⟨D, us, lst_, hD, r, fD, nW⟩
  · by_cases hj : j < m.st.length
    · by_cases hk : k < m.st.length
      · exact G.nd j k ys zs a ((old j hj).symm.trans e1) ((old k hk).symm.trans e2) ((at_ j hj).symm.trans h1) ((at_ k hk).symm.trans h2)
      · obtain ⟨ek, _⟩ := new k _ hk e2
        subst ek
        rw [lst_] at h2
        cases h2
        exact (nA j ys hj e1 h1).elim
    · obtain ⟨ej, _⟩ := new j _ hj e1
      subst ej
      by_cases hk : k < m.st.length
      · rw [lst_] at h1
        cases h1
        exact (nA k zs hk e2 h2).elim
      · obtain ⟨ek, _⟩ := new k _ hk e2
        exact ek.symm
end
theorem lift_lc {K : PySem.W.Frag} (own : Bool) {di : DI} {g : Tgt} {tt : DT} {te : DE} {vs : List Nat} (hv : ∀ i ∈ tgSlots g, i ∈ vs) {σ : L2.St} {H : Hp} {Q : VK} (h : lift K (dLc own di g tt te vs) σ H Q) : tLc (liftI K di) (tgH K g) (liftT K tt) (lift K te) vs σ H Q := by
  obtain ⟨W, F, A, m, Qd, G, h, c⟩ := h
  refine ⟨W, F, A, m, _, G, h, fun F1 A1 xs lk m1 H1 s1 p1 G1 q1 J w => ?_⟩
  intro D hD
  have nW : W D = none := G1.hid.free hD
  let Kd : List Dt → M → Prop := fun acc m2 => if own = true then Qd (.c m2.st.length) ⟨m2.sl, m2.st ++ [.lst acc]⟩ else Qd (.d (.lst acc)) m2
  refine ⟨fun i n H' => ∃ F' A' st' acc us, Same F1 F' ∧ A1 <+: A' ∧ Good K (upd W D (.lst us)) F' A' ⟨m1.sl, st'⟩ σ H' ∧ Reps K F' acc us ∧ i + n = xs.length ∧ dLcGo m1.sl (wipeD m1.sl vs) g tt te xs lk Kd (xs.drop i) acc st', ⟨xs.length, F1, A1, m1.st, [], [], Same.refl _, pre_refl _, G1.hide hD, .nil, Nat.zero_add _, q1⟩, ?_⟩
  rintro i n H2 ⟨F2, A2, st2, acc, us, s2, p2, G2, r2, en, q2⟩
  by_cases hlt : i < xs.length
  · refine .inr ?_
    have ed : xs.drop i = xs[i] :: xs.drop (i + 1) := List.drop_eq_getElem_cons hlt
    rw [ed] at q2
    obtain ⟨hl, q2⟩ := q2
    obtain ⟨hgo, hy⟩ := w.go (upd W D (.lst us)) F2 A2 ⟨m1.sl, st2⟩ σ H2 i xs[i] s2 p2 G2 hl (List.getElem?_eq_getElem hlt)
    refine ⟨hgo, fun H' => ∃ F' A' st' acc us, Same F1 F' ∧ A1 <+: A' ∧ Good K (upd W D (.lst us)) F' A' ⟨m1.sl, st'⟩ σ H' ∧ Reps K F' acc us ∧ dLcGo m1.sl (wipeD m1.sl vs) g tt te xs lk Kd (xs.drop (i + 1)) acc st', fun H' hN => ?_, fun v H3 y => ?_⟩
    · obtain ⟨F', A', st', acc', us', s', p', G', r', q'⟩ := hN
      exact ⟨n - 1, by omega, F', A', st', acc', us', s', p', G', r', by omega, q'⟩
    · obtain ⟨F3, s3, G3, r3⟩ := hy v H3 y
      have G3w := G3.wipe vs
      -- from a state within the turn back to the outer names
      have outer : ∀ {F' A' σ' m' H' us'}, Same F3 F' → A2 <+: A' → Good K (upd W D (.lst us')) F' A' m' σ' H' → Good K (upd W D (.lst us')) F' A' ⟨m1.sl, m'.st⟩ σ H' := fun {F' A' σ' m' H' us'} sF pA G' =>
        ⟨G'.ext, G'.hid, G'.dj, G1.slen, fun i v e => by
          obtain ⟨u, h1, h2⟩ := G1.sl i v e
          exact ⟨u, h1, RepV.mono (s2.trans (s3.trans sF)) (p2.trans pA) h2⟩, G'.len, G'.st, G'.nd, G'.tb⟩
      refine tg_ok (m := ⟨wipeD m1.sl vs, st2⟩) (v := .d xs[i]) G3w r3 q2 fun m' σ' G' hw q' => ⟨?_, ?_⟩
      · have h1 := hw vs hv
        rw [h1]
        have idem : ∀ (l : List Nat) (vs : List Nat) (σ : L2.St), (∀ i ∈ l, i ∈ vs) → L2.wipe (L2.wipe σ vs) l = L2.wipe σ vs := by
          intro l
          induction l with
          | nil =>
            intro vs σ _
            rfl
          | cons z l ih =>
            intro vs σ hz
            show (L2.wipe (L2.wipe σ vs) l).set z none = L2.wipe σ vs
            rw [ih vs σ (fun i hi => hz i (List.mem_cons_of_mem _ hi))]
            have hm : z ∈ vs := hz z List.mem_cons_self
            apply List.ext_getElem?
            intro j
            rw [List.getElem?_set]
            by_cases hj : z = j
            · rw [if_pos hj]
              subst hj
              split
              · rename_i hl
                cases q : (L2.wipe σ vs)[z]? with
                | none =>
                  rw [List.getElem?_eq_none_iff] at q
                  omega
                | some o =>
                  cases o with
                  | none => rfl
                  | some x => exact absurd hm (wipe_some q).2
              · rename_i hl
                exact (List.getElem?_eq_none_iff.mpr (by omega)).symm
            · rw [if_neg hj]
        exact idem vs vs σ (fun _ h => h)
      · refine ⟨upd W D (.lst us), F3, A2, m', _, G', q', fun F4 A4 b m4 H4 s4 p4 G4 q4 => ?_⟩
        cases b with
        | false =>
          have q5 : dLcGo m1.sl (wipeD m1.sl vs) g tt te xs lk Kd (xs.drop (i + 1)) acc m4.st := q4
          exact ⟨F4, A4, m4.st, acc, us, s2.trans (s3.trans s4), p2.trans p4, outer s4 p4 G4, Reps.mono (s3.trans s4) r2, q5⟩
        | true =>
          refine ⟨upd W D (.lst us), F4, A4, m4, _, G4, q4, fun F5 A5 z m5 H5 s5 p5 G5 q5 u5 r5 => ?_⟩
          obtain ⟨d, rfl, hsz, q5⟩ := onD_elim q5
          have hD5 : H5 D = some (.lst us) := G5.hid _ _ upd_same
          refine ⟨us, hD5, by rw [← r2.length]; exact hsz, ?_⟩
          exact ⟨F5, A5, m5.st, acc ++ [d], us ++ [u5], s2.trans (s3.trans (s4.trans s5)), p2.trans (p4.trans p5), outer (s4.trans s5) (p4.trans p5) G5.rehide,
            (Reps.mono (s3.trans (s4.trans s5)) r2).append (.cons r5 .nil), q5⟩
  · have e : i = xs.length := by omega
    subst e
    rw [List.drop_length] at q2
    obtain ⟨hl, q2⟩ := q2
    refine .inl ⟨w.stop (upd W D (.lst us)) F2 A2 ⟨m1.sl, st2⟩ σ H2 s2 p2 G2 hl, ?_⟩
    have q3 : if own = true then Qd (.c st2.length) ⟨m1.sl, st2 ++ [.lst acc]⟩ else Qd (.d (.lst acc)) ⟨m1.sl, st2⟩ := q2
    cases own with
    | true => exact c F2 (A2 ++ [D]) _ _ _ (s1.trans s2) (p1.trans (p2.trans ⟨[D], rfl⟩)) (G2.showOwn nW r2) q3 _ ⟨D, by rw [← G2.len]; simp, rfl⟩
    | false =>
      obtain ⟨s3, G3, r3⟩ := G2.show nW r2
      exact c _ A2 _ _ _ (s1.trans (s2.trans s3)) (p1.trans p2) G3 q3 _ r3
abbrev JTs (X : Cx) (ifs : List Expr) (t : DT) : Prop := PTs X ifs (liftT X.K t)
section
variable {X : Cx} {pos : Pos}
theorem _root_.L2.PTs.imp {X : Cx} {e : List Expr} {t t' : TT} (h : PTs X e t) (f : ∀ σ H Q, t' σ H Q → t σ H Q) : PTs X e t' := ⟨fun pins s σ H Q I q => h.run pins s σ H Q I (f _ _ _ q)⟩
theorem jts_nil : JTs X [] dYes := pts_nil.imp fun σ H Q ⟨W, F, A, m, Qd, G, h, c⟩ => c F A true m H (Same.refl _) (pre_refl _) G h
theorem jts_one {e : Expr} {t : DT} (h : JT X e t) : JTs X [e] t := pts_one h
theorem je_lc (own : Bool) {elt tg iter : Expr} {ifs : List Expr} {scope : Scope} {own' : List (Str × Nat)} {di : DI} {g : Tgt} {tt : DT} {te : DE} (hv : ∀ i ∈ tgSlots g, i ∈ own'.map (·.2)) (hc : X.calm = true) (hN : X.N.Nodup) (hi : JI X tg iter di) (ok : BlkOk X.N X.env.scope scope own')
    (hg : ∀ (s : Shared) (H : Hp) (C : Addr) (cl : List (Str × Addr)) (fp : List Addr), PG (X.blk s H scope (compEnvC scope cl C X.env) fp) tg (tgH X.K g)) (ht : ∀ (s : Shared) (H : Hp) (C : Addr) (cl : List (Str × Addr)) (fp : List Addr), JTs (X.blk s H scope (compEnvC scope cl C X.env) fp) ifs tt)
    (he : ∀ (s : Shared) (H : Hp) (C : Addr) (cl : List (Str × Addr)) (fp : List Addr), JE (X.blk s H scope (compEnvC scope cl C X.env) fp) elt te) (hs : ∀ x, foldedSetIterable iter X.env x = pure x := by intro _; rfl) :
    JE X (.ListComp elt [⟨tg, iter, ifs, 0⟩] scope pos) (dLc own di g tt te (own'.map (·.2))) :=
  (pe_lc (tt := liftT X.K tt) (te := lift X.K te) hc hN hi ok hg ht he hs).imp fun _ _ _ h => lift_lc own hv h
theorem js_setLc (own : Bool) {i : Nat} {y : Str} {py : Pos} {elt tg iter : Expr} {ifs : List Expr} {scope : Scope} {own' : List (Str × Nat)} {spos : Pos} {di : DI} {g : Tgt} {tt : DT} {te : DE} (hv : ∀ i ∈ tgSlots g, i ∈ own'.map (·.2)) (hc : X.calm = true) (hN : X.N.Nodup) (hy : X.N[i]? = some y) (hyl : X.env.scope.names.lookup y = some .local)
    (hsw : swapsWith (.ListComp elt [⟨tg, iter, ifs, 0⟩] scope pos) (some (.Name y py)) spos.line X.env = pure true) (hi : JI X tg iter di) (ok : BlkOk X.N X.env.scope scope own')
    (hg : ∀ (s : Shared) (H : Hp) (C : Addr) (cl : List (Str × Addr)) (fp : List Addr), PG (X.blk s H scope (compEnvC scope cl C X.env) fp) tg (tgH X.K g)) (ht : ∀ (s : Shared) (H : Hp) (C : Addr) (cl : List (Str × Addr)) (fp : List Addr), JTs (X.blk s H scope (compEnvC scope cl C X.env) fp) ifs tt)
    (he : ∀ (s : Shared) (H : Hp) (C : Addr) (cl : List (Str × Addr)) (fp : List Addr), JE (X.blk s H scope (compEnvC scope cl C X.env) fp) elt te) (hs : ∀ x, foldedSetIterable iter X.env x = pure x := by intro _; rfl) :
    JS X (.Assign [.Name y py] (.ListComp elt [⟨tg, iter, ifs, 0⟩] scope pos) spos) (dSet i (dLc own di g tt te (own'.map (·.2)))) := by
  refine (ps_setLc (tt := liftT X.K tt) (te := lift X.K te) hc hN hy hyl hsw hi ok hg ht he hs).imp fun D σ H hh => ?_
  have h2 : tAsg (lift X.K (dLc own di g tt te (own'.map (·.2)))) (gName i) D σ H := lift_set hh
  exact lift_lc own hv h2
end
end RT

set_option maxRecDepth 100000
set_option maxHeartbeats 4000000
namespace RT
open PySem PySem.Spec PyProof.Rows L2

/-! ### the written part, without lists -/
def notLst (o : Obj) : Bool := match o.cls with
  | .type c => decide (c ≠ "list")
  | _ => true
def frN (g : Addr → Option Obj) (as : List Addr) : PySem.W.Frag := (He.frG g as).filter fun q => notLst q.2 && !He.emptyTab q.2
theorem frN_mem' {g : Addr → Option Obj} {as : List Addr} {a : Addr} {o : Obj} (h : (a, o) ∈ He.frG g as) : g a = some o := by
  unfold He.frG at h
  obtain ⟨b, _, e⟩ := List.mem_filterMap.mp h
  cases hb : g b with
  | none =>
    rw [hb] at e
    cases e
  | some u =>
    rw [hb] at e
    have e2 : (b, u) = (a, o) := Option.some.inj e
    injection e2 with e3 e4
    rw [← e3, ← e4]
    exact hb
theorem lookup_mem' {a : Addr} {o : Obj} : ∀ {l : List (Addr × Obj)}, l.lookup a = some o → (a, o) ∈ l
  | [], h => by cases h
  | (b, u) :: r, h => by
    have h2 : (match a == b with | true => some u | false => r.lookup a) = some o := h
    cases q : (a == b) with
    | true =>
      rw [q] at h2
      have e : u = o := Option.some.inj h2
      rw [beq_iff_eq.mp q, e]
      exact List.mem_cons_self
    | false =>
      rw [q] at h2
      exact List.mem_cons_of_mem _ (lookup_mem' h2)
theorem frN_mem {g : Addr → Option Obj} {as : List Addr} {a : Addr} {o : Obj} (h : (frN g as).lookup a = some o) : g a = some o ∧ notLst o = true ∧ He.emptyTab o = false := by
  obtain ⟨h1, h2⟩ := List.mem_filter.mp (lookup_mem' h)
  obtain ⟨h3, h4⟩ := Bool.and_eq_true_iff.mp h2
  exact ⟨frN_mem' h1, h3, by simpa using h4⟩
theorem frN_in {as : List Addr} {h : Heap} : (frN h.get? as).In h := fun _ _ e => (frN_mem e).1
def NoLst (K : PySem.W.Frag) : Prop := ∀ a o, K.lookup a = some o → notLst o = true
/-- the tables of the defs with generator expressions: empty, none of the written part -/
structure TabsOk (K : PySem.W.Frag) (h : Heap) : Prop where
  cd : ∀ q ∈ tabsK K, PySem.W.codeHdIn K q.1 q.2 = true
  out : ∀ q ∈ tabsK K, K.lookup q.2 = none
  get : ∀ q ∈ tabsK K, h.get? q.2 = some { cls := .none, data := .fields #[] }
def tabsBK (g : Addr → Option Obj) (K : PySem.W.Frag) : Bool := (tabsK K).all fun q => PySem.W.codeHdIn K q.1 q.2 && (match g q.2 with
  | some o => He.emptyTab o
  | none => false)
theorem tabsBK_ok {as : List Addr} {h : Heap} (e : tabsBK h.get? (frN h.get? as) = true) : TabsOk (frN h.get? as) h := by
  have key : ∀ q ∈ tabsK (frN h.get? as), PySem.W.codeHdIn (frN h.get? as) q.1 q.2 = true ∧ ∃ o, h.get? q.2 = some o ∧ He.emptyTab o = true := fun q hq => by
    obtain ⟨h3, h4⟩ := Bool.and_eq_true_iff.mp (List.all_eq_true.mp e q hq)
    refine ⟨h3, ?_⟩
    cases z : h.get? q.2 with
    | none =>
      rw [z] at h4
      cases h4
    | some o =>
      rw [z] at h4
      exact ⟨o, rfl, h4⟩
  refine ⟨fun q hq => (key q hq).1, fun q hq => ?_, fun q hq => ?_⟩
  · obtain ⟨_, o, z, t⟩ := key q hq
    cases y : (frN h.get? as).lookup q.2 with
    | none => rfl
    | some u =>
      obtain ⟨z1, _, z2⟩ := frN_mem y
      rw [z] at z1
      cases z1
      rw [t] at z2
      cases z2
  · obtain ⟨_, o, z, t⟩ := key q hq
    rw [z, He.emptyTab_eq t]
abbrev AlR : Type := Bool × He.AlD
def obsR (n : Nat) (fa : List He.Fa) (fn : List He.DefD) (xb : PySem.W.Frag → Bool) (g : Addr → Option Obj) : AlR := (xb (frN g (He.asD g n)) && tabsBK g (frN g (He.asD g n)), He.obsD fa fn (frN g (He.asD g n)))
def hookR (n : Nat) (fa : List He.Fa) (fn : List He.DefD) (xb : PySem.W.Frag → Bool) : PySem.W.Hook where
  α := AlR
  obs := fun s => obsR n fa fn xb s.heap.get?
  val := fun _ => (true, He.valD fn)
  says := fun _ h => ∃ K : PySem.W.Frag, K.In h ∧ NoLst K ∧ TabsOk K h ∧ xb K = true ∧ He.SaysD fa fn K
  of := fun _ _ e => ⟨_, frN_in, fun _ _ e => (frN_mem e).2.1, tabsBK_ok (Bool.and_eq_true_iff.mp (congrArg Prod.fst e)).2, (Bool.and_eq_true_iff.mp (congrArg Prod.fst e)).1, congrArg Prod.snd e⟩
  keeps := fun _ _ _ ⟨K, hK, n, t, x, c⟩ k => ⟨K, PySem.W.Frag.In.keeps hK k, n, ⟨t.cd, t.out, fun q hq => k _ _ (t.get q hq)⟩, x, c⟩
theorem obsR_eq {n : Nat} {fa : List He.Fa} {fn : List He.DefD} {xb : PySem.W.Frag → Bool} {g : Addr → Option Obj} {s : Shared} (h : ∀ a, g a = s.heap.get? a) : obsR n fa fn xb g = (hookR n fa fn xb).obs s := by
  have e : g = s.heap.get? := funext h
  rw [e] <;> rfl

/-! ### a def by its datum -/
theorem fn_dtD {P : Program} {w : World} {K : PySem.W.Frag} {mg : Str → Option Value} {base : Heap} {x qual : Str} {params : Arguments} {body : List Stmt} {scope : Scope} {dvs : List V} {kws : List (Str × V)} {f : Addr} {fd : FuncData} {N ps : List Str} {k : Nat} {sp : FSpec} {b : DS} (kp : Bool) (hns : BaseOk K mg base) (htr : P.given.tree = none)
    (F : FunD K x qual params body scope dvs kws f fd) (S : FnScope N ps scope)
    (hd : ∀ (X : Cx) (cdv : Value) (A : Around) (outer : List Env) (s : Shared) (H : Hp) (E : XK), X = (cxOf CX0 P w K mg base N qual scope f cdv A outer s H E).nox → CodeIs K f cdv → Amb k X → JSs X body b)
    (hsp : ∀ args st0 Qd, sp args st0 Qd → args.length = ps.length ∧ b (endsOf kp st0.length Qd) (startM N.length args st0)) : Fnn P w K mg base CX0 (k + 1) f fd ps (liftSp K sp) := by
  obtain ⟨oc, od, dV, kV, doc, pm, an, cdv, ct, osl, rfl, lk, hcd, _, _⟩ := F.ex
  refine fnn_of hns htr lk hcd S (fun vs H Q E h => ?_) fun A outer s H vs Q E amb h => ?_
  · obtain ⟨W, F1, A1, st1, args, Qd, G, r, q, c⟩ := h
    rw [← r.length]
    exact (hsp _ _ _ q).1
  · obtain ⟨W, F1, A1, st1, args, Qd, G, r, q, c⟩ := h
    have h1 := hd (cxOf CX0 P w K mg base N qual scope f cdv A outer s H E).nox cdv A outer s H E rfl ⟨oc, od, _, osl, lk, rfl⟩ ⟨amb.rm, amb.py, amb.tb⟩
    refine ⟨_, PSs.nox h1, ?_⟩
    have hl := r.length
    refine ⟨W, F1, A1, startM N.length args st1, endsOf kp st1.length Qd, ⟨G.ext, G.hid, G.dj, ?_, ?_, G.len, G.st, G.nd, G.tb⟩, (hsp _ _ _ q).2, ⟨?_, ?_, ?_, ?_⟩⟩
    · unfold startM L2.start
      simp [hl]
    · intro i v e
      unfold startM at e
      unfold L2.start
      rw [← hl]
      exact repVs_slots r _ i v e
    · intro F' A' m' σ' H' s' p' G' q'
      exact retD_ok (kp := kp) (v := .d .non) (u := .non) G.len s' p' G' rv_non q' c
    · intro F' A' m' σ' H' v u s' p' G' r' q'
      exact retD_ok (kp := kp) G.len s' p' G' r' q' c
    · intro F' A' m' σ' H' _ _ _ q'
      exact q'
    · intro F' A' m' σ' H' _ _ _ q'
      exact q'

/-! ### the law's own call -/
theorem law_callR {P : Program} {w : World} {K : PySem.W.Frag} {mg mb : Str → Option Value} {k : Nat} {fa a : Addr} {fd : FuncData} {x : Str} {sp : Sp} {s₁ : Shared} {vs : List Value} {ns : List Int}
    (KX : K.In s₁.heap) (nl : NoLst K) (tk : TabsOk K s₁.heap) (hns : s₁.heap.Ns mainGlobals mg) (hb : s₁.heap.Ns builtinsNs mb) (hbb : ∀ x : Str, x ≠ "__name__" → mb x = bootBuiltins x) (hlim : s₁.heap.NoLimit) (hseer : s₁.heap.NoSeer) (hg : s₁.gens = #[])
    (hbm : ∃ (bm : Addr) (ob : Obj), mg "__builtins__" = some (.ref bm) ∧ bm ≠ builtinsNs ∧ s₁.heap.get? bm = some ob ∧ ob.cls = .type "module" ∧ ob.dict = some builtinsNs ∧ ob.data = .plain)
    (ha : s₁.heap.get? a = some { cls := .type "list", data := .seq vs.toArray }) (hi : IntsAre vs ns) (hl : ns.length ≤ sizeLine) (hr : GRoom k callerA)
    (F : ∀ base : Heap, K.In base → base.Ns mainGlobals mg → BaseOk K mg base → Fnn P w K mg base CX0 k fa fd [x] sp) (hbind : ∀ (s : Shared) (u : Value), BindsTo s fd ⟨[u], []⟩ [(x, u)])
    (hsp : ∀ (H : Hp) (o : Obj), H a = some (.frz o (.lst (ns.map V.int))) → (∀ q ∈ tabsK K, H q.2 = some (.tbl #[])) → sp [.ref a] H (fun v _ => v = .bl true) E0) :
    codeAny (model P w) callerA (.call (.ref fa) ⟨[.ref a], []⟩) (fun r s' => r = .ok (.ret (.bool true)) ∧ OldK s₁.heap s'.heap ∧ s'.os = s₁.os ∧ AllBare s'.gens) s₁ := by
  have rv := vals_ints hi
  have lenV := hi.length
  have hk : K.lookup a = none := by
    cases q : K.lookup a with
    | none => rfl
    | some o =>
      have e := KX a o q
      rw [ha] at e
      have e2 := Option.some.inj e
      have := nl a o q
      rw [← e2] at this
      have z : notLst { cls := .type "list", data := .seq vs.toArray } = false := by
        show decide ("list" ≠ "list") = false
        decide
      rw [z] at this
      cases this
  have isT : ∀ b : Addr, b ∈ (tabsK K).map (·.2) → s₁.heap.get? b = some { cls := .none, data := .fields #[] } := fun b hb => by
    obtain ⟨p, hp, e⟩ := List.mem_map.mp hb
    rw [← e]
    exact tk.get p hp
  have aT : a ∉ (tabsK K).map (·.2) := fun z => by
    have q := isT a z
    rw [ha] at q
    have z' : Data.seq vs.toArray _ = Data.fields #[] := congrArg Obj.data (Option.some.inj q)
    cases z'
  have memT : ∀ p ∈ tabsK K, p.2 ∈ (tabsK K).map (·.2) := fun p hp => List.mem_map.mpr ⟨p, hp, rfl⟩
  let H : Hp := fun b => if b = a then some (.frz { cls := .type "list", data := .seq vs.toArray } (.lst (ns.map V.int))) else if b ∈ (tabsK K).map (·.2) then some (.tbl #[]) else none
  have Ha : H a = some (.frz { cls := .type "list", data := .seq vs.toArray } (.lst (ns.map V.int))) := if_pos rfl
  have Ht : ∀ b ∈ (tabsK K).map (·.2), H b = some (.tbl #[]) := fun b hb => (if_neg (show ¬ b = a from fun z => aT (z ▸ hb))).trans (if_pos hb)
  have Hn : ∀ b, b ≠ a → b ∉ (tabsK K).map (·.2) → H b = none := fun b hb hb2 => (if_neg hb).trans (if_neg hb2)
  have hok : HOk P w H s₁.heap := fun b u z => by
    by_cases hb : b = a
    · subst hb
      rw [Ha] at z
      cases z
      exact ⟨ha, by rw [List.length_map]; exact hl, vs, _, rv, ha⟩
    · by_cases hb2 : b ∈ (tabsK K).map (·.2)
      · rw [Ht b hb2] at z
        cases z
        exact isT b hb2
      · rw [Hn b hb hb2] at z
        cases z
  have base_of : ∀ {b : Addr} {o : Obj}, s₁.heap.get? b = some o → H b = none → (hidT s₁.heap H).get? b = some o := fun e n => hidT_get e n
  have noC : ∀ {b : Addr} {o : Obj}, s₁.heap.get? b = some o → o.cls ≠ .type "list" → o.cls ≠ .none → H b = none := fun {b o} e d d2 => by
    refine Hn b (fun z => ?_) fun z => ?_
    · subst z
      rw [ha] at e
      cases e
      exact absurd rfl d
    · rw [isT b z] at e
      cases e
      exact absurd rfl d2
  have noA : ∀ {b : Addr} {o : Obj} {es : Array DictEntry} {ep : Nat}, s₁.heap.get? b = some o → o.data = .dict es ep → H b = none := fun {b o es ep} e d => by
    refine Hn b (fun z => ?_) fun z => ?_
    · subst z
      rw [ha] at e
      cases e
      have d' : Data.seq vs.toArray _ = Data.dict es ep := d
      cases d'
    · rw [isT b z] at e
      cases e
      cases d
  have nsK : ∀ {b : Addr} {m : Str → Option Value}, s₁.heap.Ns b m → (hidT s₁.heap H).Ns b m := fun {b m} ⟨o, es, ep, e, d, r⟩ => ⟨o, es, ep, base_of e (noA e d), d, r⟩
  have hKb : K.In (hidT s₁.heap H) := fun b o e => base_of (KX b o e) (by
    refine Hn b (fun z => ?_) fun z => ?_
    · subst z
      rw [hk] at e
      cases e
    · obtain ⟨p, hp, ep⟩ := List.mem_map.mp z
      rw [← ep, tk.out p hp] at e
      cases e)
  have hM : Mod K mg (hidT s₁.heap H) := ⟨hKb, nsK hns, ⟨mb, nsK hb, hbb⟩, let ⟨mc, h1, h2⟩ := hlim; ⟨mc, nsK h1, h2⟩⟩
  have hS : (hidT s₁.heap H).NoSeer := ⟨let ⟨mc, a, b⟩ := hseer.statics; ⟨mc, nsK a, b⟩, let ⟨mc, a, b⟩ := hseer.mods; ⟨mc, nsK a, b⟩, let ⟨mc, a, b⟩ := hseer.imp; ⟨mc, nsK a, b⟩,
    let ⟨mg, bm, ob, a, b, c, d, e⟩ := hseer.main; ⟨mg, bm, ob, nsK a, b, base_of c (noC c (by rw [d]; decide) (by rw [d]; intro z; cases z)), d, e⟩⟩
  have TB : ∀ p ∈ tabsK K, GxR.TabB (hidT s₁.heap H) mg p.1 p.2 := fun p hp => by
    have hTp := tk.get p hp
    refine ⟨PySem.W.codeHd_of_K hKb (tk.cd p hp), ?_, fun z => ?_⟩
    · obtain ⟨bm, ob, b1, b2, b3, b4, b5, b6⟩ := hbm
      have nG : bm ≠ mainGlobals := fun q => by
        obtain ⟨o, es, ep, e, hd, _⟩ := hns
        rw [q, e] at b3
        cases b3
        rw [hd] at b6
        cases b6
      have nP : bm ≠ p.2 := fun q => by
        rw [q, hTp] at b3
        cases b3
        cases b6
      exact ⟨bm, ob, b1, b2, nG, nP, base_of b3 (noC b3 (by rw [b4]; decide) (by rw [b4]; intro z; cases z)), b4, b5, b6⟩
    · obtain ⟨o, es, ep, e, hd, _⟩ := hns
      rw [z, hTp] at e
      cases e
      cases hd
  have e0 : Env0 P w K mg (hidT s₁.heap H) callerA [] s₁ H := ⟨rfl, hM, fun b o e => of_hidT e, Nat.le_of_eq (hidT_size _ _), trivial, fun b hb => absurd (show b ∈ ([] : List Addr) from hb) (by simp), hok, .of_eq hg⟩
  refine codeAny_mono ((F _ hKb (nsK hns) ⟨hS, TB⟩).run callerA [] s₁ H ⟨[.ref a], []⟩ [.ref a] [.ref a] _ _ hr e0 (hbind s₁ (.ref a)) (.cons rfl .nil) (hsp H _ Ha fun q hq => Ht _ (memT q hq))) fun r s' h => ?_
  cases r with
  | error e => exact (show False from h).elim
  | ok fl =>
    cases fl with
    | next => exact False.elim h
    | brk => exact False.elim h
    | cont => exact False.elim h
    | ret u =>
      obtain ⟨v, H', os, bare, un, hok', r', q⟩ := h
      have q' : v = .bl true := q
      subst q'
      obtain rfl : u = Value.bool true := r'
      have key : ∀ b o, b ∉ (tabsK K).map (·.2) → s₁.heap.get? b = some o → s'.heap.get? b = some o := fun b o nb e => by
        by_cases hb : b = a
        · subst hb
          have z2 := un.frzs b _ _ Ha
          obtain ⟨e1, _⟩ := hok b _ Ha
          obtain ⟨e2, _⟩ := hok' b _ z2
          rw [e] at e1
          cases e1
          exact e2
        · exact un.keep b o e (Hn b hb nb) (by intro z; exact absurd (show b ∈ ([] : List Addr) from z) (by simp)) (by simp)
      have grown : ∀ p ∈ tabsK K, ∃ more : Array Value, s'.heap.get? p.2 = some { cls := .none, data := .fields more } := fun p hp => by
        obtain ⟨more, z⟩ := un.tbls p.2 #[] (Ht _ (memT p hp))
        exact ⟨_, hok' p.2 _ z⟩
      refine ⟨rfl, ⟨fun b o e => ?_, fun b o e => ?_⟩, os, bare⟩
      · by_cases hb : b ∈ (tabsK K).map (·.2)
        · obtain ⟨p, hp, ep⟩ := List.mem_map.mp hb
          obtain ⟨more, hm⟩ := grown p hp
          rw [← ep] at e ⊢
          rw [tk.get p hp] at e
          cases e
          exact .inr (.inl ⟨((PySem.W.codeHd_of_K KX (tk.cd p hp)).tab (tk.get p hp)).isCodeTable, rfl, #[], more, rfl, by rw [Array.empty_append]; exact hm⟩)
        · exact .inl (key b o hb e)
      · by_cases hb : b ∈ (tabsK K).map (·.2)
        · obtain ⟨p, hp, ep⟩ := List.mem_map.mp hb
          obtain ⟨more, hm⟩ := grown p hp
          rw [← ep]
          exact ⟨_, hm⟩
        · exact ⟨o, key b o hb e⟩
/-- a law over plain data: it gives True at every list of ints (their bits bounded) -/
def LawD (n : Nat) (sp : FSpec) : Prop := ∀ ns : List Int, ns.length ≤ n → (∀ z ∈ ns, Builtin.Int.intBits z ≤ 1048576) → sp [.d (.lst (ns.map .int))] [] fun r _ => r = .d (.bl true)
theorem good0 {K : PySem.W.Frag} {F H : Hp} (s : Same F H) (t : ∀ q ∈ tabsK K, GxR.TabG H q.2 ∧ F q.2 = none) : Good K (fun _ => none) F [] ⟨[], []⟩ [] H where
  ext := s
  hid := fun _ _ e => nomatch e
  dj := fun _ _ e => nomatch e
  slen := rfl
  sl := fun i v e => by simp at e
  len := rfl
  st := fun k xs e => by simp at e
  nd := fun j k xs ys a e => by simp at e
  tb := fun q hq => ⟨(t q hq).1, (t q hq).2, rfl⟩
theorem reps_ints {K : PySem.W.Frag} {F : Hp} : ∀ ns : List Int, Reps K F (ns.map .int) (ns.map V.int)
  | [] => .nil
  | n :: ns => .cons rep_int (reps_ints ns)
theorem walk_R {l : PySem.W.OpenLaw} {n k : Nat} {q : Program} {loose : List Str} {XP : (Str → Option Value) → Heap → Prop} {YP : World → Heap → Prop} {d : DefRec} {x : Str} {sp : FSpec}
    (hn : l.most = some n) (hn2 : n ≤ sizeLine) (hdf : d.params.defaults = []) (hr : GRoom k callerA) (hi : importsNone q = true) (law : LawD n sp)
    (F : ∀ (w : World) (mg : Str → Option Value) (fa : Addr) (h : Heap), YP w h → h.Ns mainGlobals mg → mg d.name = some (.ref fa) →
      ∃ (K : PySem.W.Frag) (fd : FuncData), K.In h ∧ NoLst K ∧ TabsOk K h ∧ (∀ (s : Shared) (u : Value), BindsTo s fd ⟨[u], []⟩ [(x, u)]) ∧
        ∀ base : Heap, K.In base → base.Ns mainGlobals mg → BaseOk K mg base → Fnn l.prog w K mg base CX0 k fa fd [x] (liftSp K sp)) :
    PySem.W.WalkO q loose XP YP l.row.toRowW d [] (fun f vs => PySem.call f vs) := by
  refine Att.attach_callB hn hdf fun w s₀ s₁ mg mb fa o pm cd doc a vs ns G Y ho hd hcd hmg hobj hints hlen hbits hg => ?_
  obtain ⟨K, fd, KX, nl, tk, hb, hF⟩ := F w mg fa _ Y G.T.g hmg
  refine law_callR KX nl tk G.T.g G.T.b G.T.builtins G.T.nolimit (G.T.seer hi) hg G.T.bmain hobj hints (Nat.le_trans hlen hn2) hr hF hb fun H ob hS hT => ?_
  have sF : Same (fun b => if b = a then H b else none) H := fun b o e => by
    by_cases hb : b = a
    · have e' := (if_pos hb).symm.trans e
      exact e'
    · have e' := (if_neg hb).symm.trans e
      cases e'
  refine ⟨fun _ => none, fun b => if b = a then H b else none, [], [], [.d (.lst (ns.map .int))], _, good0 sF (fun q hq => ⟨⟨#[], hT q hq, trivial⟩, if_neg (fun z => ?_)⟩), ⟨.ref a, [], rfl, ?_, rfl⟩, law ns hlen hbits, fun F' A' st' H' r u _ _ _ r' q' => ?_⟩
  · have := hT q hq
    rw [z, hS] at this
    cases this
  · show Rep K _ (.lst (ns.map .int)) (.ref a)
    simp only [Rep]
    exact ⟨a, _, rfl, .inr ⟨ob, (if_pos rfl).trans hS⟩, reps_ints ns⟩
  · rw [q'] at r'
    exact repB_bl (H := H') r'
end RT

set_option maxRecDepth 100000
set_option maxHeartbeats 4000000
namespace RT
open PySem PySem.Spec PyProof.Rows L2

/-! ### + of ints, texts, tuples, lists -/
def rAddA : DR2 := fun x y P => match x, y with
  | .int i, .int j => P (.int (i + j))
  | .str i, .str j => i.length + j.length ≤ sizeLine ∧ P (.str (i ++ j))
  | .tup xs, .tup ys => xs.length + ys.length ≤ sizeLine ∧ P (.tup (xs ++ ys))
  | .lst xs, .lst ys => xs.length + ys.length ≤ sizeLine ∧ P (.lst (xs ++ ys))
  | _, _ => False
section
variable {X : Cx}
theorem o_addA : OpD X (binaryOp .Add) rAddA := ⟨_, (op_add.or op_add_str).or (op_catA.or op_catR), fun W F A m σ H x y u v P Q G rx ry q c => by
  unfold rAddA at q
  split at q
  · exact .inl (.inl ⟨_, _, repB_int rx, repB_int ry, c F H _ _ (Same.refl _) G rep_int q⟩)
  · exact .inl (.inr ⟨_, _, repB_str rx, repB_str ry, q.1, c F H _ _ (Same.refl _) G rep_str q.2⟩)
  · rename_i xs ys
    obtain ⟨R, hR, hv⟩ := o_catT (X := X)
    obtain ⟨l, vs, rfl, hl, rl⟩ := repB_tup rx
    obtain ⟨b, ws, rfl, hb, rb⟩ := repB_tup ry
    refine .inr (.inl ⟨l, b, vs, ws, rfl, rfl, seqT_mono G.ext hl, seqT_mono G.ext hb, by rw [← rl.length, ← rb.length]; exact q.1, fun e => ?_, fun e e2 => ?_, fun _ _ p np => ?_⟩)
    · have e1 := reps_nil rl e
      subst e1
      exact c F H _ _ (Same.refl _) G ry q.2
    · have e1 := reps_nil rb e2
      subst e1
      have q2 := q.2
      rw [List.append_nil] at q2
      exact c F H _ _ (Same.refl _) G rx q2
    · obtain ⟨F2, s2, G2, r2⟩ := tup_laid G np (rl.append rb)
      exact c F2 _ _ _ s2 G2 r2 q.2
  · rename_i xs ys
    obtain ⟨l, vs, rfl, hl, rl⟩ := rx
    obtain ⟨b, ws, rfl, hb, rb⟩ := ry
    refine .inr (.inr ⟨l, b, vs, ws, rfl, rfl, hl, hb, by rw [← rl.length, ← rb.length]; exact q.1, fun p np => ?_⟩)
    obtain ⟨F2, s2, G2, r2⟩ := lst_laid G np (rl.append rb)
    exact c F2 _ _ _ s2 G2 r2 q.2
  · exact q.elim⟩

/-! ### a list or a tuple is walked -/
def iAny (K : PySem.W.Frag) (tl : TE) : TI := fun σ H R => tl σ H fun x H1 => ∃ a, x = .ref a ∧ (((∃ xs, SqL K H1 a xs) ∧ R (Itl K a) H1) ∨ ((∃ xs, SqT K H1 a xs) ∧ R (Itt K a) H1))
theorem pi_any {tg l : Expr} {tl : TE} (hl : PE X l tl) : PI X tg l (iAny X.K tl) := by
  refine ⟨fun pins s σ H R I h => ?_⟩
  refine thn (hl.run pins s σ H _ I h) fun v s1 ⟨x, H1, I1, r1, a, ex, q⟩ => ?_
  subst ex
  cases r1
  rcases q with ⟨⟨xs, hs⟩, q⟩ | ⟨⟨xs, hs⟩, q⟩
  · obtain ⟨its, rv, p, hz⟩ := I1.list hs
    refine wpAny_pyIter_list p.isList ?_
    refine ⟨s1.heap.objs.size, [s1.heap.objs.size], _, _, H1, rfl, I1.kept (t' := s1.toks) fun b o e => Heap.get?_push_of_some _ e, turn_list a _, ⟨_, Heap.get?_push_size _ rfl, rfl, rfl⟩, fun b hb => ?_, q⟩
    have e : b = s1.heap.objs.size := by simpa using hb
    subst e
    exact I1.fpOk (Nat.le_refl _) (I1.hok.fresh (Nat.le_refl _))
  · obtain ⟨its, rv, p, hz⟩ := I1.tuple hs
    refine wpAny_pyIter_tuple (show s1.heap.IsTuple a its.toArray from p) ?_
    refine ⟨s1.heap.objs.size, [s1.heap.objs.size], _, _, H1, rfl, I1.kept (t' := s1.toks) fun b o e => Heap.get?_push_of_some _ e, turn_tuple a _, ⟨_, Heap.get?_push_size _ rfl, rfl, rfl⟩, fun b hb => ?_, q⟩
    have e : b = s1.heap.objs.size := by simpa using hb
    subst e
    exact I1.fpOk (Nat.le_refl _) (I1.hok.fresh (Nat.le_refl _))
/-- over a list (plain, or one's own) or a tuple -/
def dAny (t : DE) : DI := fun m Q => t m fun v m1 => match v with
  | .d (.lst xs) => Q xs none m1
  | .d (.tup xs) => Q xs none m1
  | .c k => onC m1.st k fun xs => Q xs (some k) m1
  | _ => False
theorem ji_any {tg l : Expr} {t : DE} (hl : JE X l t) : JI X tg l (dAny t) := by
  refine (pi_any hl).imp fun σ H R hh => ?_
  obtain ⟨W, F, A, m, Qd, G, h, c⟩ := hh
  refine ⟨W, F, A, m, _, G, h, fun F1 A1 v m1 H1 s1 p1 G1 q1 u r1 => ?_⟩
  split at q1
  · rename_i xs
    have r' : Rep X.K F1 (.lst xs) u := r1
    simp only [Rep] at r'
    obtain ⟨a, vs, rfl, hs, rs⟩ := r'
    exact ⟨a, rfl, .inl ⟨⟨vs, .inl (rd_mono G1.ext hs)⟩, c F1 A1 xs none m1 H1 s1 p1 G1 q1 _ (walks_list (.inl hs) rs)⟩⟩
  · rename_i xs
    have r' : Rep X.K F1 (.tup xs) u := r1
    simp only [Rep] at r'
    obtain ⟨a, vs, rfl, hs, rs⟩ := r'
    exact ⟨a, rfl, .inr ⟨⟨vs, seqT_mono G1.ext hs⟩, c F1 A1 xs none m1 H1 s1 p1 G1 q1 _ (walks_tup hs rs)⟩⟩
  · rename_i k
    obtain ⟨xs, e, q1⟩ := onC_elim q1
    obtain ⟨a, ha, rfl⟩ := r1
    obtain ⟨a', vs, h1, h2, h3, _⟩ := G1.st k xs e
    rw [ha] at h1
    cases h1
    exact ⟨a, rfl, .inl ⟨⟨vs, SqL.of h2⟩, c F1 A1 xs (some k) m1 H1 s1 p1 G1 q1 _ (walks_own ha)⟩⟩
  · exact q1.elim

/-! ### chains of comparisons of ints -/
def dChainI (f g : Int → Int → Bool) (ta tb tc : DE) : DE := fun m Q => ta m fun v m1 => tb m1 fun w m2 => match v, w with
  | .d (.int i), .d (.int j) => if f i j = true then tc m2 fun z m3 => match z with
    | .d (.int k) => Q (.d (.bl (g j k))) m3
    | _ => False
    else Q (.d (.bl false)) m2
  | _, _ => False
theorem ii_elim {v w : Vl} {P : Int → Int → Prop} (h : match v, w with
  | .d (.int i), .d (.int j) => P i j
  | _, _ => False) : ∃ i j, v = .d (.int i) ∧ w = .d (.int j) ∧ P i j := by
  split at h
  · exact ⟨_, _, rfl, rfl, h⟩
  · exact h.elim
section
variable {a b e : Expr} {ta tb tc : DE} {pos : Pos} {f g : Int → Int → Bool}
theorem lift_chain {K : PySem.W.Frag} {σ : L2.St} {H : Hp} {Q : VK} (h : lift K (dChainI f g ta tb tc) σ H Q) : tChain (rI0 fun i j => .bl (f i j)) (rI0 fun i j => .bl (g i j)) (lift K ta) (lift K tb) (lift K tc) σ H Q := by
  obtain ⟨W, F, A, m, Qd, G, h, c⟩ := h
  refine ⟨W, F, A, m, _, G, h, fun F1 A1 v m1 H1 s1 p1 G1 q1 u r1 => ⟨W, F1, A1, m1, _, G1, q1, fun F2 A2 w m2 H2 s2 p2 G2 q2 u2 r2 => ?_⟩⟩
  obtain ⟨i, j, ei, ej, q4⟩ := ii_elim q2
  subst ei ej
  have e1 : u = .int i := repB_int (H := H2) r1
  have e2 : u2 = .int j := repB_int (H := H2) r2
  rw [e1, e2]
  refine ⟨i, j, rfl, rfl, _, rfl, ?_⟩
  by_cases hf : f i j = true
  · rw [if_pos hf] at q4 ⊢
    refine ⟨W, F2, A2, m2, _, G2, q4, fun F3 A3 z m3 H3 s3 p3 G3 q3 u3 r3 => ?_⟩
    obtain ⟨k, rfl, q3⟩ := int_elim q3
    have e3 : u3 = .int k := repB_int (H := H3) r3
    rw [e3]
    exact ⟨j, k, rfl, rfl, c F3 A3 _ m3 H3 (s1.trans (s2.trans s3)) (p1.trans (p2.trans p3)) G3 q3 _ rv_bl⟩
  · rw [if_neg hf] at q4 ⊢
    exact c F2 A2 _ m2 H2 (s1.trans s2) (p1.trans p2) G2 q4 _ rv_bl
theorem je_chain {op op' : CmpOp} (ho : OpR X (compareOp op) (rI0 fun i j => .bl (f i j))) (ho' : OpR X (compareOp op') (rI0 fun i j => .bl (g i j))) (ha : JE X a ta) (hb : JE X b tb) (hc : JE X e tc)
    (hm : lastMarks [op, op'] [b, e] = false := by with_unfolding_all rfl) : JE X (.Compare a [op, op'] [b, e] pos) (dChainI f g ta tb tc) := (pe_chain ho ho' ha hb hc hm).imp fun _ _ _ h => lift_chain h
theorem jt_chain {op op' : CmpOp} (ho : OpR X (compareOp op) (rI0 fun i j => .bl (f i j))) (ho' : OpR X (compareOp op') (rI0 fun i j => .bl (g i j))) (ha : JE X a ta) (hb : JE X b tb) (hc : JE X e tc)
    (hm : lastMarks [op, op'] [b, e] = false := by with_unfolding_all rfl) : JT X (.Compare a [op, op'] [b, e] pos) (dTest (dChainI f g ta tb tc)) := by
  refine (pt_chain ho ho' ha hb hc hm).imp fun σ H Q h => ?_
  obtain ⟨W, F, A, m, Qd, G, h, c⟩ := h
  refine lift_chain ⟨W, F, A, m, _, G, h, fun F1 A1 v m1 H1 s1 p1 G1 q1 u r1 => ?_⟩
  obtain ⟨k, rfl, q⟩ := dTest_elim q1
  exact ⟨k, repB_bl (H := H1) r1, c F1 A1 k m1 H1 s1 p1 G1 q⟩
end

/-! ### a name's slot; a def by name -/
structure SlotOk (X : Cx) (i : Nat) (x : Str) : Prop where
  hN : X.N[i]? = some x
  hl : Loc X.env.scope x
  nd : (x == ("__debug__" : Str)) = false
  nc : (x == ("__classdict__" : Str)) = false
  hf : X.fn x = true ∨ X.env.scope.names.lookup x = some .local
theorem SlotOk.vis {i : Nat} {x : Str} (s : SlotOk X i x) : Vis X.env.scope x := s.hl.elim .inl fun h => .inr (.inl h)
theorem je_v {i : Nat} {x : Str} {pos : Pos} (s : SlotOk X i x) : JE X (.Name x pos) (dVar i) := je_var i s.hN s.vis s.nd s.nc
theorem je_f {i : Nat} {x : Str} {pos : Pos} (s : SlotOk X i x) : JE X (.Name x pos) (dFz i) := je_fz i s.hN s.vis s.nd s.nc
theorem js_st {i : Nat} {x : Str} {pos pos' : Pos} {e : Expr} {te : DE} (hN : X.N.Nodup) (s : SlotOk X i x) (he : JE X e te) (hs : swapsWith e (some (.Name x pos')) pos.line X.env = pure false := by rfl) : JS X (.Assign [.Name x pos'] e pos) (dSet i te) := js_set hN s.hN s.hl he hs s.hf
theorem pg_v {i : Nat} {x : Str} {pos : Pos} (hN : X.N.Nodup) (s : SlotOk X i x) : PG X (.Name x pos) (gName i) := pg_name hN s.hN s.hl s.hf

def FnG (P : Program) (w : World) (K : PySem.W.Frag) (mg : Str → Option Value) (base : Heap) (x : Str) (k : Nat) (sp : FSpec) (dargs : List Vl) : Prop :=
  ∃ (f : Addr) (fd : FuncData) (ps : List Str) (ds : List Value) (dvs : List V), Fnn P w K mg base CX0 k f fd ps (liftSp K sp) ∧ mg x = some (.ref f) ∧ PySem.W.keepIn K (.ref f) = true ∧ Binds K fd ps ds ∧ Vals dvs ds ∧ ∀ F A, RepVs K F A dargs dvs
theorem je_cg {j k : Nat} {x : Str} {p pos : Pos} {e : Expr} {es : List Expr} {ts : DA} {sp : FSpec} {dargs : List Vl} (F : FnG X.prog X.w X.K X.mg X.base x j sp dargs) (hr : GRoom k X.A) (hg : Gl X x) (ha : JA X (e :: es) ts) (hj : j ≤ k := by decide) (nd : (x == ("__debug__" : Str)) = false := by decide)
    (he : starEach (e :: es) X.env = (false, eval e X.env) :: starEach es X.env := by rfl) (hpl : (backTo pos (starEach es X.env)).any (·.1) = false := by rfl) :
    JE X (.Call (.Name x p) (e :: es) [] pos) (dCall sp dargs ts) := je_call ⟨nd, F⟩ (hr.mono hj) hg ha he hpl
theorem je_cg0 {j k : Nat} {x : Str} {p pos : Pos} {sp : FSpec} {dargs : List Vl} (F : FnG X.prog X.w X.K X.mg X.base x j sp dargs) (hr : GRoom k X.A) (hg : Gl X x) (hj : j ≤ k := by decide) (nd : (x == ("__debug__" : Str)) = false := by decide) :
    JE X (.Call (.Name x p) [] [] pos) (dCall sp dargs dNil) := je_call0 ⟨nd, F⟩ (hr.mono hj) hg
/-- a def's promise, by its body alone -/
def spOf (kp : Bool) (n N : Nat) (b : DS) : FSpec := fun args st Q => args.length = n ∧ b (endsOf kp st.length Q) (startM N args st)
theorem mkG {P : Program} {w : World} {K : PySem.W.Frag} {mg : Str → Option Value} {base : Heap} {x y qual : Str} {params : Arguments} {body : List Stmt} {scope : Scope} {kws : List (Str × V)} {f : Addr} {fd : FuncData} {N ps : List Str} {k n m : Nat} {b : DS} (kp : Bool) (hns : BaseOk K mg base) (htr : P.given.tree = none)
    (F : FunD K y qual params body scope [] kws f fd) (hm : mg x = some (.ref f)) (S : FnScope N ps scope) (hn : ps.length = n) (hN : N.length = m)
    (hb : ∀ (kV doc pm : Value) (an : Option Addr) (cdv ct : Value) (us : List Value), us.length = ps.length → bindArgs (PySem.W.fnOf y qual params body scope .none kV doc pm an cdv ct) ⟨us, []⟩ = pure (ps.zip us))
    (hd : ∀ (X : Cx) (cdv : Value) (A : Around) (outer : List Env) (s : Shared) (H : Hp) (E : XK), X = (cxOf CX0 P w K mg base N qual scope f cdv A outer s H E).nox → CodeIs K f cdv → Amb k X → JSs X body b) :
    FnG P w K mg base x (k + 1) (spOf kp n m b) [] := by
  subst hn hN
  exact ⟨f, fd, ps, [], [], fn_dtD kp hns htr F S hd fun args st0 Qd h => h, hm, F.kp, F.bindsN hb, .nil, fun _ _ => rfl⟩
end
end RT

set_option maxRecDepth 100000
set_option maxHeartbeats 4000000
namespace RT
open PySem PySem.Spec PyProof.Rows L2
abbrev rLt : DR2 := rInt (fun _ _ => True) fun i j => .bl (decide (i < j))
abbrev rLe : DR2 := rInt (fun _ _ => True) fun i j => .bl (decide (i ≤ j))
abbrev rGt : DR2 := rInt (fun _ _ => True) fun i j => .bl (decide (j < i))
abbrev rGe : DR2 := rInt (fun _ _ => True) fun i j => .bl (decide (j ≤ i))
abbrev rSub : DR2 := rInt (fun _ _ => True) fun i j => .int (i - j)
abbrev rMul : DR2 := rInt MulOk fun i j => .int (i * j)
abbrev rDiv : DR2 := rInt (fun _ j => j ≠ 0) fun i j => .int (i.fdiv j)
abbrev rMod : DR2 := rInt (fun _ j => j ≠ 0) fun i j => .int (i.fmod j)
abbrev rPow : DR2 := rInt CPow fun i j => .int (i ^ j.toNat)
abbrev rAddI : DR2 := rInt (fun _ _ => True) fun i j => .int (i + j)
theorem boot_len : bootBuiltins "len" = some (.builtin "len") := by decide +kernel
theorem boot_abs : bootBuiltins "abs" = some (.builtin "abs") := by decide +kernel
theorem boot_sum : bootBuiltins "sum" = some (.builtin "sum") := by decide +kernel
theorem boot_int : bootBuiltins "int" = some (.type "int") := by decide +kernel
theorem boot_list : bootBuiltins "list" = some (.type "list") := by decide +kernel
theorem boot_tuple : bootBuiltins "tuple" = some (.type "tuple") := by decide +kernel
theorem boot_bool : bootBuiltins "bool" = some (.type "bool") := by decide +kernel
theorem boot_str : bootBuiltins "str" = some (.type "str") := by decide +kernel
section
variable {P : Program} {w : World} {K : PySem.W.Frag} {mg : Str → Option Value} {base : Heap} {x y qual : Str} {params : Arguments} {body : List Stmt} {scope : Scope} {dvs : List V} {kws : List (Str × V)} {f : Addr} {fd : FuncData} {N ps : List Str} {k n m : Nat} {b : DS}
/-- a def with one default: called with all arguments, and without the last -/
theorem mkGd {i : Int} (kp : Bool) (hns : BaseOk K mg base) (htr : P.given.tree = none)
    (F : FunD K y qual params body scope [.int i] kws f fd) (hm : mg x = some (.ref f)) (S : FnScope N ps scope) (hn : ps.length = n + 1) (hN : N.length = m)
    (hb : ∀ (T : Addr) (kV doc pm : Value) (an : Option Addr) (cdv ct : Value) (us its : List Value), us.length = n + 1 → its.length = 1 →
      ∃ k, bindArgs (PySem.W.fnOf y qual params body scope (.ref T) kV doc pm an cdv ct) ⟨us, []⟩ = seqItems? (.ref T) >>= k ∧ k (some its.toArray) = pure (ps.zip us))
    (hb1 : ∀ (T : Addr) (kV doc pm : Value) (an : Option Addr) (cdv ct : Value) (us its : List Value), us.length = n → its.length = 1 →
      ∃ k, bindArgs (PySem.W.fnOf y qual params body scope (.ref T) kV doc pm an cdv ct) ⟨us, []⟩ = seqItems? (.ref T) >>= k ∧ k (some its.toArray) = pure (ps.zip (us ++ its)))
    (hd : ∀ (X : Cx) (cdv : Value) (A : Around) (outer : List Env) (s : Shared) (H : Hp) (E : XK), X = (cxOf CX0 P w K mg base N qual scope f cdv A outer s H E).nox → CodeIs K f cdv → Amb k X → JSs X body b) :
    FnG P w K mg base x (k + 1) (spOf kp (n + 1) m b) [] ∧ FnG P w K mg base x (k + 1) (spOf kp (n + 1) m b) [.d (.int i)] := by
  subst hN
  have fn : Fnn P w K mg base CX0 (k + 1) f fd ps (liftSp K (spOf kp (n + 1) N.length b)) := fn_dtD kp hns htr F S hd fun args st0 Qd h => ⟨h.1.trans hn.symm, h.2⟩
  obtain ⟨ds, r, B⟩ := F.binds1 (ps := ps) (n + 1) 1 (by simp) (by simp [hn]) (fun T kV doc pm an cdv ct us its hu hi => by
    obtain ⟨k, e1, e2⟩ := hb T kV doc pm an cdv ct us its hu hi
    refine ⟨k, e1, ?_⟩
    rw [e2, List.drop_eq_nil_of_le (by rw [hi]; exact Nat.le_refl _), List.append_nil])
  obtain ⟨ds1, r1, B1⟩ := F.binds1 (ps := ps) n 0 (by simp) (by simp [hn]) (fun T kV doc pm an cdv ct us its hu hi => by
    obtain ⟨k, e1, e2⟩ := hb1 T kV doc pm an cdv ct us its hu hi
    exact ⟨k, e1, by rw [e2, List.drop_zero]⟩)
  have e : ds = [] := by
    cases r
    rfl
  subst e
  exact ⟨⟨f, fd, ps, [], [], fn, hm, F.kp, B, .nil, fun _ _ => rfl⟩, ⟨f, fd, ps, ds1, _, fn, hm, F.kp, B1, r1, fun _ _ => ⟨_, _, rfl, rv_int, rfl⟩⟩⟩
end
/-- the law's def -/
theorem mkF {P : Program} {w : World} {K : PySem.W.Frag} {mg : Str → Option Value} {base : Heap} {y qual : Str} {params : Arguments} {body : List Stmt} {scope : Scope} {dvs : List V} {kws : List (Str × V)} {f : Addr} {fd : FuncData} {N ps : List Str} {k n m : Nat} {b : DS} (kp : Bool) (hns : BaseOk K mg base) (htr : P.given.tree = none)
    (F : FunD K y qual params body scope dvs kws f fd) (S : FnScope N ps scope) (hn : ps.length = n) (hN : N.length = m)
    (hd : ∀ (X : Cx) (cdv : Value) (A : Around) (outer : List Env) (s : Shared) (H : Hp) (E : XK), X = (cxOf CX0 P w K mg base N qual scope f cdv A outer s H E).nox → CodeIs K f cdv → Amb k X → JSs X body b) :
    Fnn P w K mg base CX0 (k + 1) f fd ps (liftSp K (spOf kp n m b)) := by
  subst hn hN
  exact fn_dtD kp hns htr F S hd fun args st0 Qd h => h
end RT
namespace RT
open PySem PySem.Spec PyProof.Rows L2
theorem gl_of {X : Cx} {sc : Scope} {x : Str} (e : X.env.scope = sc) (h : sc.names.lookup x = some .globalImplicit) : Gl X x := by
  show X.env.scope.names.lookup x = some .globalImplicit
  rw [e]
  exact h
theorem slot_of {X : Cx} {sc : Scope} {N : List Str} {i : Nat} {x : Str} (e : X.env.scope = sc) (eN : X.N = N) (hfn : ∀ x, X.fn x = true) (h : N[i]? = some x) (hl : sc.names.lookup x = some .local ∨ sc.names.lookup x = some .cell) (h1 : (x == ("__debug__" : Str)) = false := by decide) (h2 : (x == ("__classdict__" : Str)) = false := by decide) : SlotOk X i x :=
  ⟨by rw [eN]; exact h, by rw [e]; exact hl, h1, h2, .inl (hfn x)⟩
theorem swap_ok {X : Cx} {x y : Str} {px py pt pt2 : Pos} {kt k2 : Nat} {a b : Expr} (hk : X.env.scope.kind = .function) (hx : X.env.scope.names.lookup x = some .local) (hy : X.env.scope.names.lookup y = some .local) (hxy : ([x, y].eraseDups.length != 2) = false) (hl : (py.line == px.line) = true)
    (hs1 : (match a with | .Starred .. => true | _ => false) = false) (hs2 : (match b with | .Starred .. => true | _ => false) = false) (hf : [a, b].all (foldedForSure 8) = false) (hc : [a, b].all (constantsAlone 8) = false) :
    swappedStores [.Tuple [.Name x px, .Name y py] kt pt] (.Tuple [a, b] k2 pt2) X.env = pure (some [x, y]) := by
  have kx : X.env.kindOf x = some .local := hx
  have ky : X.env.kindOf y = some .local := hy
  have hb : X.env.blockKind = .function := by unfold Env.blockKind; rw [hk]; rfl
  unfold swappedStores
  simp only [hb, List.length_cons, List.length_nil, List.head?_cons, Option.map_some, Option.getD_some, List.filterMap_cons, List.filterMap_nil, kx, ky, Expr.pos, hl, hf, hc, List.any_cons, List.any_nil, hs1, hs2]
  simp only [beq_self_eq_true, Bool.and_self, if_true, List.length_cons, List.length_nil, hxy]
  simp [hxy, hf, hc]
  intro h
  rcases h with h | h
  · cases a <;> first | (simp at h; done) | (simp at hs1; done)
  · cases b <;> first | (simp at h; done) | (simp at hs2; done)
end RT
namespace RT
open PySem PySem.Spec PyProof.Rows L2
/-- a constant of the module, over the written part -/
def CstG (K : PySem.W.Frag) (mg : Str → Option Value) (x : Str) (d : Dt) : Prop := ∃ (v : V) (u : Value), mg x = some u ∧ RelV v u ∧ ∀ F, Rep K F d v
theorem CstG.at_ {X : Cx} {x : Str} {d : Dt} (c : CstG X.K X.mg x d) (g : Gl X x) (nd : (x == ("__debug__" : Str)) = false) : GlobD X x d := ⟨g, c, nd⟩
theorem blk_of {X : Cx} {sc : Scope} {N : List Str} {scope : Scope} {own : List (Str × Nat)} (eN : X.N = N) (eS : X.env.scope = sc) (h : blkC N sc scope own = true) : BlkOk X.N X.env.scope scope own := by
  rw [eN, eS]
  exact blkOk_by h
end RT

set_option maxRecDepth 100000
set_option maxHeartbeats 4000000
namespace RT
open PySem PySem.Spec PyProof.Rows L2
/-! constants of the module -/
mutual
def vB (K : PySem.W.Frag) : Dt → Value → Bool
  | .non, u => decide (u = .none)
  | .bl b, u => decide (u = .bool b)
  | .int i, u => (match u with
    | .int j _ => decide (j = i)
    | _ => false)
  | .str s, u => (match u with
    | .str t _ => decide (t = s)
    | _ => false)
  | .tup ds, u => (match u with
    | .ref a => (match K.lookup a with
      | some ⟨.type c, _, .seq its _, _⟩ => decide (c = "tuple") && (decide (its.size ≤ sizeLine) && vBs K ds its.toList)
      | _ => false)
    | _ => false)
  | .lst _, _ => false
def vBs (K : PySem.W.Frag) : List Dt → List Value → Bool
  | [], [] => true
  | d :: ds, u :: us => vB K d u && vBs K ds us
  | _, _ => false
end
theorem band {a b : Bool} (h : (a && b) = true) : a = true ∧ b = true := Bool.and_eq_true_iff.mp h
mutual
theorem vB_ok {K : PySem.W.Frag} : ∀ {d : Dt} {u : Value}, vB K d u = true → ∃ v, RelV v u ∧ ∀ F, Rep K F d v
  | .non, u, h => ⟨.non, of_decide_eq_true (p := u = .none) h, fun _ => rfl⟩
  | .bl b, u, h => ⟨.bl b, of_decide_eq_true (p := u = .bool b) h, fun _ => rfl⟩
  | .int i, u, h => by
    cases u with
    | int j t =>
      have e : j = i := of_decide_eq_true h
      subst e
      exact ⟨.int j, ⟨t, rfl⟩, fun _ => rfl⟩
    | _ => cases h
  | .str s, u, h => by
    cases u with
    | str y t =>
      have e : y = s := of_decide_eq_true h
      subst e
      exact ⟨.str y, ⟨t, rfl⟩, fun _ => rfl⟩
    | _ => cases h
  | .tup ds, u, h => by
    cases u with
    | ref a =>
      have h' : (match K.lookup a with
        | some ⟨.type c, _, .seq its _, _⟩ => decide (c = "tuple") && (decide (its.size ≤ sizeLine) && vBs K ds its.toList)
        | _ => false) = true := h
      cases q : K.lookup a with
      | none =>
        rw [q] at h'
        cases h'
      | some o =>
        obtain ⟨oc, od, dt, osl⟩ := o
        rw [q] at h'
        cases oc with
        | type c =>
          cases dt with
          | seq its n =>
            obtain ⟨h1, h2⟩ := band (show (decide (c = "tuple") && (decide (its.size ≤ sizeLine) && vBs K ds its.toList)) = true from h')
            obtain ⟨h3, h4⟩ := band h2
            obtain ⟨vs, r, p⟩ := vBs_ok h4
            exact ⟨.ref a, rfl, fun F => ⟨a, vs, rfl, .inr ⟨_, its, n, q, congrArg Value.type (of_decide_eq_true h1), rfl, of_decide_eq_true h3, r⟩, p F⟩⟩
          | _ => cases h'
        | _ => cases dt <;> cases h'
    | _ => cases h
theorem vBs_ok {K : PySem.W.Frag} : ∀ {ds : List Dt} {us : List Value}, vBs K ds us = true → ∃ vs, Vals vs us ∧ ∀ F, Reps K F ds vs
  | [], [], _ => ⟨[], .nil, fun _ => rfl⟩
  | [], _ :: _, h => by cases h
  | _ :: _, [], h => by cases h
  | d :: ds, u :: us, h => by
    obtain ⟨h1, h2⟩ := band (show (vB K d u && vBs K ds us) = true from h)
    obtain ⟨v, r, p⟩ := vB_ok h1
    obtain ⟨vs, r2, p2⟩ := vBs_ok h2
    exact ⟨v :: vs, .cons r r2, fun F => ⟨v, vs, rfl, p F, p2 F⟩⟩
end
def cstB (K : PySem.W.Frag) (x : Str) (d : Dt) : Bool := match PySem.W.nsIn K mainGlobals x with
  | some (some u) => vB K d u
  | _ => false
theorem cst_of {K : PySem.W.Frag} {h : Heap} {mg : Str → Option Value} {x : Str} {d : Dt} (X : K.In h) (G : h.Ns mainGlobals mg) (c : cstB K x d = true) : CstG K mg x d := by
  unfold cstB at c
  cases e : PySem.W.nsIn K mainGlobals x with
  | none =>
    rw [e] at c
    cases c
  | some o =>
    rw [e] at c
    cases o with
    | none => cases c
    | some u =>
      obtain ⟨v, r, p⟩ := vB_ok (show vB K d u = true from c)
      exact ⟨v, u, PySem.W.mg_of X G e, r, p⟩
/-! a comprehension's name from outside -/
theorem lookup_relabel_free {env : Env} : ∀ {names : List (Str × NameKind)} {x : Str}, names.lookup x = some .free →
    (names.map fun (n, k) => if (k == NameKind.free && env.scope.kind == .function && env.kindOf n == some .cell) then (n, NameKind.cell) else (n, k)).lookup x = some .cell ∨
    (names.map fun (n, k) => if (k == NameKind.free && env.scope.kind == .function && env.kindOf n == some .cell) then (n, NameKind.cell) else (n, k)).lookup x = some .free
  | [], _, h => by cases h
  | (n, k) :: r, x, h => by
    rw [List.map_cons]
    by_cases hc : (k == NameKind.free && env.scope.kind == .function && env.kindOf n == some .cell) = true
    · simp only [if_pos hc]
      cases hx : x == n with
      | true =>
        simp [List.lookup_cons, hx]
      | false =>
        simp only [List.lookup_cons, hx] at h ⊢
        exact lookup_relabel_free h
    · simp only [if_neg hc]
      cases hx : x == n with
      | true =>
        simp only [List.lookup_cons, hx] at h ⊢
        exact .inr h
      | false =>
        simp only [List.lookup_cons, hx] at h ⊢
        exact lookup_relabel_free h
theorem vis_free {scope : Scope} {cl : List (Str × Addr)} {C : Addr} {env : Env} {x : Str} (h : scope.names.lookup x = some .free) : Vis (compEnvC scope cl C env).scope x := (lookup_relabel_free h).elim (fun h => .inr (.inl h)) fun h => .inr (.inr h)
end RT

set_option maxRecDepth 100000
set_option maxHeartbeats 4000000
namespace RT
open PySem PySem.Spec PyProof.Rows L2
/-! repr -/
def reprD (x : Dt) : Str := (toPy x).shown
def shows (x : Dt) : Prop := (toPy x).showable = true ∧ (toPy x).depth ≤ 60 ∧ (reprD x).length ≤ sizeLine
def bRepr : DRB := fun xs P => match xs with
  | [x] => shows x ∧ P (.str (reprD x))
  | _ => False
theorem noDictD : ∀ x : Dt, (toPy x).hasDict = false := by
  have go : ∀ n : Nat, ∀ x : Dt, sizeOf x ≤ n → (toPy x).hasDict = false := by
    intro n
    induction n with
    | zero =>
      intro x h
      cases x <;> simp at h
    | succ n ih =>
      intro x h
      have all : ∀ ds : List Dt, sizeOf ds ≤ n → PyData.hasDictAll (toPys ds) = false := by
        intro ds
        induction ds with
        | nil =>
          intro _
          simp [toPys, PyData.hasDictAll]
        | cons d ds ih2 =>
          intro hd
          simp at hd
          simp only [toPys, PyData.hasDictAll, ih d (by omega), ih2 (by omega), Bool.or_self]
      cases x with
      | tup ds =>
        simp at h
        simp only [toPy, PyData.hasDict]
        exact all ds (by omega)
      | lst ds =>
        simp at h
        simp only [toPy, PyData.hasDict]
        exact all ds (by omega)
      | _ => simp [toPy, PyData.hasDict]
  intro x
  exact go _ x (Nat.le_refl _)
section
variable {X : Cx}
theorem call_reprD {k : Nat} (hr : GRoom k X.A) : CallR X (.builtin "repr") (fun xs H Q => ∃ v d, xs = [v] ∧ Dp X.K H v d ∧ d.showable = true ∧ d.depth ≤ 60 ∧ d.shown.length ≤ sizeLine ∧ d.hasDict = false ∧ Q (.str d.shown) H) := by
  intro pins s σ H xs us Q I r h
  obtain ⟨v, d, rfl, hd, h1, h2, h3, h4, q⟩ := h
  have hlen := r.length
  cases us with
  | nil => cases hlen
  | cons u us =>
    cases us with
    | cons a b => cases hlen
    | nil =>
      obtain ⟨u', e, r'⟩ := r.get (i := 0) (x := v) rfl
      cases e
      obtain ⟨as, rd⟩ := Dp.reads I d v u hd r'
      have hu := hr.hu
      have rd0 := rd
      cases rd with
      | none => exact PySem.P.repr_of_none ⟨.str _, H, I.tok _, ⟨_, rfl⟩, q⟩
      | bool => exact PySem.P.repr_of_bool ⟨.str _, H, I.tok _, ⟨_, rfl⟩, q⟩
      | int => exact PySem.P.repr_of_int (by simpa [PyData.showable] using h1) ⟨.str _, H, I.tok _, ⟨_, rfl⟩, q⟩
      | str => exact PySem.P.repr_of_str ⟨.str _, H, I.tok _, ⟨_, rfl⟩, q⟩ h3
      | _ => exact _root_.PySem.repr_of_reads' rd0 h1 (PyData.noDict_hsm h4) hr.gd (by omega) (fun b o e => e) (fun h' u tk hk => ⟨.str _, H, I.kept hk, ⟨_, rfl⟩, q⟩) h3
theorem b_repr {k : Nat} (hr : GRoom k X.A) : BiD X (.builtin "repr") bRepr := ⟨_, call_reprD hr, fun W F A m σ H xs us P Q G rs q c => by
  unfold bRepr at q
  split at q
  · rename_i x
    obtain ⟨u, rfl, ru⟩ := rb1 rs
    exact ⟨u, toPy x, rfl, dp_of (rep_up G.ext ru), q.1.1, q.1.2.1, q.1.2.2, noDictD x, c F H _ _ (Same.refl _) G rep_str q.2⟩
  · exact q.elim⟩
theorem boot_repr : bootBuiltins "repr" = some (.builtin "repr") := by kernel_rfl
end
end RT

set_option maxRecDepth 100000
set_option maxHeartbeats 4000000
namespace RT
open PySem PySem.Spec PyProof.Rows L2
/-! more methods of lists -/
section
variable {X : Cx}
theorem reps2 {K : PySem.W.Frag} {F : Hp} {y z : Dt} {us : List V} (r : Reps K F [y, z] us) : ∃ u w, us = [u, w] ∧ Rep K F y u ∧ Rep K F z w := by
  simp only [Reps] at r
  obtain ⟨u, r', rfl, h1, w, r2, rfl, h2, rfl⟩ := r
  exact ⟨u, w, rfl, h1, h2⟩
def mInsert : MOp := fun xs ys P => match ys with
  | [.int i, y] => xs.length < sizeLine ∧ 0 ≤ i ∧ i < 2 ^ 63 ∧ P (xs.take i.toNat ++ [y] ++ xs.drop i.toNat) .non
  | _ => False
theorem m_insert : MetD X "list.insert" mInsert := ⟨_, mt_insert, fun F H a xs ys vs us P Q hH r r' q c => by
  unfold mInsert at q
  split at q
  · obtain ⟨u, w, rfl, ru, rw'⟩ := reps2 r'
    simp only [Rep] at ru
    rw [ru]
    exact ⟨a, vs, _, w, rfl, rfl, hH, by rw [← r.length]; exact q.1, q.2.1, q.2.2.1, c _ _ .non .non (((r.take _).append (.cons rw' .nil)).append (r.drop _)) rep_non q.2.2.2⟩
  · exact q.elim⟩
/-- the last one is taken off -/
def mPop : MOp := fun xs ys P => match ys with
  | [] => onO xs.getLast? fun y => P xs.dropLast y
  | _ => False
theorem Reps.dropLast {K : PySem.W.Frag} {F : Hp} {xs : List Dt} {vs : List V} (r : Reps K F xs vs) : Reps K F xs.dropLast vs.dropLast := by
  rw [List.dropLast_eq_take, List.dropLast_eq_take, ← r.length]
  exact r.take _
end
end RT

set_option maxRecDepth 100000
set_option maxHeartbeats 4000000
namespace RT
open PySem PySem.Spec PyProof.Rows L2
/-! name += list, in place; list.remove's form -/
section
variable {X : Cx}
def ipExt (K : PySem.W.Frag) : TIp := fun x y H Q => ∃ l b xs zs, x = .ref l ∧ y = .ref b ∧ H l = some (.lst xs) ∧ Rd H b (.lst zs) ∧ xs.length + zs.length ≤ sizeLine ∧ Q (.ref l) (upd H l (.lst (xs ++ zs)))
theorem ip_ext : PIp X .Add (ipExt X.K) := by
  intro pins s σ H x y v u Q I rx ry h
  obtain ⟨l, b, xs, zs, rfl, rfl, hH, hB, hz, q⟩ := h
  cases rx
  cases ry
  obtain ⟨z, its, n, r, hl, e⟩ := I.lstM hH
  obtain ⟨z2, its2, n2, r2, e2⟩ := hB.ok I.hok
  have hl2 : zs.length = its2.length := r2.length
  have hsz : its.toArray.size + its2.toArray.size ≤ sizeLine := by rw [List.size_toArray, List.size_toArray]; omega
  have hlong : ¬ (!its.toArray.isEmpty && Builtin.List.listTooLong (its.toArray.size + its2.toArray.size)) = true := by
    rw [notLongL hsz, Bool.and_false]
    exact Bool.false_ne_true
  refine iadd_road ⟨_, e, rfl⟩ ⟨_, e2, rfl⟩ (call_meets PySem.F.slot_list_iadd ⟨_, e, rfl⟩ PySem.F.entry_list_iadd (PySem.F.args_list_iadd_2 _ _) (AutoSeq1.list___iadd___list_list_0 l its.toArray n b its2.toArray n2 hlong (by rw [List.size_toArray]; omega) (by omega)) ⟨e, e2, ?_⟩)
  refine ⟨.ref l, _, I.lset (its' := its ++ its2) (t' := s.toks) hH e (by simp) (r.append r2) ?_, rfl, q⟩
  rw [List.length_append]
  omega
def dAugL (i : Nat) (te : DE) : DS := fun E m => match m.sl[i]? with
  | some (some (.c k)) => te m fun v m1 => onD v fun y => match y with
    | .lst ys => onC m1.st k fun xs => xs.length + ys.length ≤ sizeLine ∧ E.nx ⟨m1.sl.set i (some (.c k)), m1.st.set k (.lst (xs ++ ys))⟩
    | _ => False
  | _ => False
def mRemove : MOp := fun xs ys P => match ys with
  | [y] => shD y ∧ shD (.lst xs) ∧ onO (xs.findIdx? fun z => eqD z y) fun j => P (xs.eraseIdx j) .non
  | _ => False
theorem js_augL {i : Nat} {x : Str} {e : Expr} {te : DE} {pos pos' : Pos} (hN : X.N.Nodup) (hi : X.N[i]? = some x) (hx : Loc X.env.scope x) (he : JE X e te) (hf : X.fn x = true ∨ X.env.scope.names.lookup x = some .local := by first | exact .inl rfl | exact .inr rfl | assumption) :
    JS X (.AugAssign (.Name x pos') .Add e pos) (dAugL i te) := by
  refine (ps_aug hN hi hx he ip_ext hf).imp fun D σ H hh => ?_
  obtain ⟨W, F, A, m, E, G, h, c⟩ := hh
  unfold dAugL at h
  split at h
  · rename_i k ey
    obtain ⟨u, eu, ru⟩ := G.sl i _ ey
    obtain ⟨a, ha, rfl⟩ := id ru
    refine ⟨.ref a, eu, W, F, A, m, _, G, h, fun F1 A1 v m1 H1 s1 p1 G1 q1 w r1 => ?_⟩
    obtain ⟨y, rfl, q⟩ := onD_elim q1
    cases y with
    | lst ys =>
      obtain ⟨xs, ex, hz, q⟩ := onC_elim q
      obtain ⟨a', vs, g1, g2, g3, _⟩ := G1.st k xs ex
      have ha1 : RepV X.K F1 A1 (.c k) (.ref a) := RepV.mono s1 p1 ru
      obtain ⟨a2, hka, ek⟩ := id ha1
      cases ek
      rw [hka] at g1
      cases g1
      have r1' : Rep X.K F1 (.lst ys) w := r1
      simp only [Rep] at r1'
      obtain ⟨b, ws, rfl, hb, rw'⟩ := r1'
      refine ⟨a, b, vs, ws, rfl, rfl, g2, rd_mono G1.ext hb, by rw [← g3.length, ← rw'.length]; exact hz, ?_⟩
      have G2 := G1.write ex hka (g3.append rw')
      exact c.nx F1 A1 _ _ _ s1 p1 (G2.store (v := .c k) ⟨a, hka, rfl⟩) q
    | _ => exact q.elim
  · exact h.elim
/-- == of two texts, whatever their signs -/
def rEqT : DR2 := fun x y P => match x, y with
  | .str a, .str b => P (.bl (decide (a = b)))
  | _, _ => False
theorem o_eqT : OpD X (compareOp .Eq) rEqT := ⟨_, L2.op_eq, fun W F A m σ H x y u v P Q G rx ry q c => by
  unfold rEqT at q
  split at q
  · rename_i a b
    rw [repB_str rx, repB_str ry]
    have e : decide (V.str a = V.str b) = decide (a = b) := decide_eq_decide.mpr ⟨fun h => by injection h, fun h => by rw [h]⟩
    refine ⟨rfl, ?_⟩
    rw [e]
    exact c F H _ _ (Same.refl _) G rep_bl q
  · exact q.elim⟩
end
end RT

set_option maxRecDepth 100000
set_option maxHeartbeats 4000000
namespace RT
open PySem PySem.Spec PyProof.Rows L2
/-! ### any, all of a generator expression -/
def dGxGo (isAll : Bool) (sl : List (Option Vl)) (slw : List (Option Vl)) (g : Tgt) (te : DE) (all : List Dt) (lk : Option Nat) (K : Bool → M → Prop) : List Dt → List Cell → Prop
  | [], st => lockOk lk all ⟨sl, st⟩ ∧ K isAll ⟨sl, st⟩
  | x :: xs, st => lockOk lk all ⟨sl, st⟩ ∧ tgD g (.d x) ⟨slw, st⟩ fun m1 => te m1 fun v m2 => match v with
    | .d (.bl b) => if b = isAll then dGxGo isAll sl slw g te all lk K xs m2.st else K b ⟨sl, m2.st⟩
    | _ => False
def dGx (isAll : Bool) (di : DI) (g : Tgt) (te : DE) (vs : List Nat) : DE := fun m Q => di m fun xs lk m1 => dGxGo isAll m1.sl (wipeD m1.sl vs) g te xs lk (fun b m2 => Q (.d (.bl b)) m2) xs m1.st
theorem Good.tabbed {K : PySem.W.Frag} {W F : Hp} {A : List Addr} {m : M} {σ : L2.St} {H H' : Hp} {q : Addr × Addr} (G : Good K W F A m σ H) (hq : q ∈ tabsK K) (t : GxR.Tabbed q.2 H H') : Good K W F A m σ H' := by
  obtain ⟨t0, t1, t2⟩ := G.tb q hq
  refine ⟨fun b x e => ?_, fun b x e => ?_, G.dj, G.slen, G.sl, G.len, fun k xs e => ?_, G.nd, fun r hr => ?_⟩
  · rw [t.2 b (fun z => by rw [z, t1] at e; cases e)]
    exact G.ext _ _ e
  · rw [t.2 b (fun z => by rw [z, t2] at e; cases e)]
    exact G.hid _ _ e
  · obtain ⟨a, vs, h1, h2, h3⟩ := G.st k xs e
    exact ⟨a, vs, h1, by rw [t.2 a (tab_ne t0 h2).symm]; exact h2, h3⟩
  · obtain ⟨r0, r1⟩ := G.tb r hr
    refine ⟨?_, r1⟩
    by_cases h : r.2 = q.2
    · rw [h]
      exact t.1
    · obtain ⟨ps, e, ok⟩ := r0
      exact ⟨ps, by rw [t.2 _ h]; exact e, ok⟩
theorem wipe_idem : ∀ (l : List Nat) (vs : List Nat) (σ : L2.St), (∀ i ∈ l, i ∈ vs) → L2.wipe (L2.wipe σ vs) l = L2.wipe σ vs := by
  intro l
  induction l with
  | nil =>
    intro vs σ _
    rfl
  | cons z l ih =>
    intro vs σ hz
    show (L2.wipe (L2.wipe σ vs) l).set z none = L2.wipe σ vs
    rw [ih vs σ (fun i hi => hz i (List.mem_cons_of_mem _ hi))]
    have hm : z ∈ vs := hz z List.mem_cons_self
    apply List.ext_getElem?
    intro j
    rw [List.getElem?_set]
    by_cases hj : z = j
    · rw [if_pos hj]
      subst hj
      split
      · rename_i hl
        cases q : (L2.wipe σ vs)[z]? with
        | none =>
          rw [List.getElem?_eq_none_iff] at q
          omega
        | some o =>
          cases o with
          | none => rfl
          | some x => exact absurd hm (wipe_some q).2
      · rename_i hl
        exact (List.getElem?_eq_none_iff.mpr (by omega)).symm
    · rw [if_neg hj]
theorem lift_gx {K : PySem.W.Frag} {q : Addr × Addr} (hq : q ∈ tabsK K) {isAll : Bool} {di : DI} {g : Tgt} {te : DE} {vs : List Nat} (hv : ∀ i ∈ tgSlots g, i ∈ vs) {σ : L2.St} {H : Hp} {Q : VK} (h : lift K (dGx isAll di g te vs) σ H Q) : RG.tGx K q.2 isAll (liftI K di) (tgH K g) (lift K te) vs σ H Q := by
  obtain ⟨W, F, A, m, Qd, G, h, c⟩ := h
  refine ⟨W, F, A, m, _, G, h, fun F1 A1 xs lk m1 H1 s1 p1 G0 q1 J w => ⟨(G0.tb q hq).1, fun H1' hT => ?_⟩⟩
  have G1 := G0.tabbed hq hT
  let Kd : Bool → M → Prop := fun b m2 => Qd (.d (.bl b)) m2
  refine ⟨fun i n H' => ∃ F' A' st', Same F1 F' ∧ A1 <+: A' ∧ Good K W F' A' ⟨m1.sl, st'⟩ σ H' ∧ i + n = xs.length ∧ dGxGo isAll m1.sl (wipeD m1.sl vs) g te xs lk Kd (xs.drop i) st', ⟨xs.length, F1, A1, m1.st, Same.refl _, pre_refl _, G1, Nat.zero_add _, q1⟩, ?_⟩
  rintro i n H2 ⟨F2, A2, st2, s2, p2, G2, en, q2⟩
  by_cases hlt : i < xs.length
  · refine .inr ?_
    have ed : xs.drop i = xs[i] :: xs.drop (i + 1) := List.drop_eq_getElem_cons hlt
    rw [ed] at q2
    obtain ⟨hl, q2⟩ := q2
    obtain ⟨hgo, hy⟩ := w.go W F2 A2 ⟨m1.sl, st2⟩ σ H2 i xs[i] s2 p2 G2 hl (List.getElem?_eq_getElem hlt)
    refine ⟨hgo, fun H' => ∃ F' A' st', Same F1 F' ∧ A1 <+: A' ∧ Good K W F' A' ⟨m1.sl, st'⟩ σ H' ∧ dGxGo isAll m1.sl (wipeD m1.sl vs) g te xs lk Kd (xs.drop (i + 1)) st', fun H' hN => ?_, fun v H3 y => ?_⟩
    · obtain ⟨F', A', st', s', p', G', q'⟩ := hN
      exact ⟨n - 1, by omega, F', A', st', s', p', G', by omega, q'⟩
    · obtain ⟨F3, s3, G3, r3⟩ := hy v H3 y
      have G3w := G3.wipe vs
      have outer : ∀ {F' A' σ' m' H'}, Same F3 F' → A2 <+: A' → Good K W F' A' m' σ' H' → Good K W F' A' ⟨m1.sl, m'.st⟩ σ H' := fun {F' A' σ' m' H'} sF pA G' =>
        ⟨G'.ext, G'.hid, G'.dj, G1.slen, fun i v e => by
          obtain ⟨u, h1, h2⟩ := G1.sl i v e
          exact ⟨u, h1, RepV.mono (s2.trans (s3.trans sF)) (p2.trans pA) h2⟩, G'.len, G'.st, G'.nd, G'.tb⟩
      refine tg_ok (m := ⟨wipeD m1.sl vs, st2⟩) (v := .d xs[i]) G3w r3 q2 fun m' σ' G' hw q' => ⟨?_, ?_⟩
      · have h1 := hw vs hv
        rw [h1]
        exact wipe_idem vs vs σ (fun _ h => h)
      · refine ⟨W, F3, A2, m', _, G', q', fun F4 A4 z m4 H4 s4 p4 G4 q4 u4 r4 => ?_⟩
        have q5 : ∃ b, z = .d (.bl b) ∧ (if b = isAll then dGxGo isAll m1.sl (wipeD m1.sl vs) g te xs lk Kd (xs.drop (i + 1)) m4.st else Kd b ⟨m1.sl, m4.st⟩) := by
          cases z with
          | d x =>
            cases x with
            | bl b => exact ⟨b, rfl, q4⟩
            | _ => exact q4.elim
          | c k => exact q4.elim
        obtain ⟨b, ez, q6⟩ := q5
        subst ez
        have eu : u4 = .bl b := repB_bl (H := H4) (K := K) (F := F4) r4
        refine ⟨b, eu, ?_⟩
        by_cases hb : b = isAll
        · rw [if_pos hb] at q6 ⊢
          exact ⟨F4, A4, m4.st, s2.trans (s3.trans s4), p2.trans p4, outer s4 p4 G4, q6⟩
        · rw [if_neg hb] at q6 ⊢
          exact c F4 A4 _ _ _ (s1.trans (s2.trans (s3.trans s4))) (p1.trans (p2.trans p4)) (outer s4 p4 G4) q6 _ rv_bl
  · have e : i = xs.length := by omega
    subst e
    rw [List.drop_length] at q2
    obtain ⟨hl, q2⟩ := q2
    exact .inl ⟨w.stop W F2 A2 ⟨m1.sl, st2⟩ σ H2 s2 p2 G2 hl, c F2 A2 _ _ _ (s1.trans s2) (p1.trans p2) G2 q2 _ rv_bl⟩
/-- the running def is one of those with generator expressions -/
def InGen (X : Cx) : Prop := ∃ q ∈ tabsK X.K, X.env.code = .ref q.1
theorem ingen_of {X : Cx} {p : Str × Option Str} (h : CodeIs X.K (He.fAd X.K p) X.env.code) (hp : p ∈ gdefs) (ht : (tabK X.K p).isSome = true) : InGen X := by
  obtain ⟨oc, od, fd, osl, lk, ec⟩ := h
  obtain ⟨q, e⟩ := Option.isSome_iff_exists.mp ht
  refine ⟨q, List.mem_filterMap.mpr ⟨p, hp, e⟩, ?_⟩
  unfold tabK at e
  rw [lk] at e
  dsimp only at e
  rw [← ec]
  cases hc : fd.code with
  | ref c =>
    rw [hc] at e
    dsimp only at e
    split at e
    · split at e
      · cases e
        rfl
      · cases e
    · cases e
  | _ =>
    rw [hc] at e
    cases e
theorem gr_gx {k : Nat} {A A' : Around} (r : GRoom (k + 1) A) (h : RG.GAo A A') : GRoom k A' :=
  ⟨⟨h.hd, by have := r.room.dp; have := h.dp; omega, by have := r.room.un; have := h.un; omega⟩, by rw [h.gd]; exact r.gd, by have := r.dp; have := h.dp; omega⟩
section
variable {X : Cx} {pos p gpos : Pos} {elt tg iter : Expr} {scope : Scope} {own' : List (Str × Nat)} {di : DI} {g : Tgt} {te : DE} {k : Nat}
/-- the generator expression's own scope -/
structure GScope (scope : Scope) : Prop where
  co : scope.isCoroutine = false
  cell : ∀ y ∈ scope.names, y.2 ≠ .cell
  dot : scope.names.lookup (".0" : Str) = some NameKind.local
def gscB (s : Scope) : Bool := !s.isCoroutine && (s.names.all fun y => y.2 != .cell) && (s.names.lookup (".0" : Str) == some NameKind.local)
theorem gsc_of {s : Scope} (h : gscB s = true) : GScope s := by
  obtain ⟨h, h3⟩ := Bool.and_eq_true_iff.mp h
  obtain ⟨h1, h2⟩ := Bool.and_eq_true_iff.mp h
  exact ⟨by simpa using h1, fun y hy => by simpa using List.all_eq_true.mp h2 y hy, by simpa using h3⟩
theorem je_any (amb : Amb (k + 1) X) (ig : InGen X) (gs : GScope scope) (hgl : Gl X "any") (hm : X.mg "any" = none) (hv : ∀ i ∈ tgSlots g, i ∈ own'.map (·.2)) (hc : X.calm = true) (hN : X.N.Nodup) (hi : JI X tg iter di) (ok : BlkOk X.N X.env.scope scope own')
    (hg : ∀ (s : Shared) (H : Hp) (C : Addr) (code : Value) (cl : List (Str × Addr)) (fp : List Addr) (A' : Around), RG.GAo X.A A' → PG (RG.GCx X s H (genEnv scope cl C code builtinsNs X.env) fp A') tg (tgH X.K g))
    (he : ∀ (s : Shared) (H : Hp) (C : Addr) (code : Value) (cl : List (Str × Addr)) (fp : List Addr) (A' : Around), RG.GAo X.A A' → JE (RG.GCx X s H (genEnv scope cl C code builtinsNs X.env) fp A') elt te)
    (hs : ∀ v, genFold iter X.env v = pure v := by intro _; rfl)
    (hse : starEach [.GeneratorExp elt [⟨tg, iter, [], 0⟩] scope gpos] X.env = (false, eval (.GeneratorExp elt [⟨tg, iter, [], 0⟩] scope gpos) X.env) :: starEach [] X.env := by rfl) :
    JE X (.Call (.Name "any" p) [.GeneratorExp elt [⟨tg, iter, [], 0⟩] scope gpos] [] pos) (dGx false di g te (own'.map (·.2))) := by
  obtain ⟨q, hq, hcode⟩ := ig
  exact (RG.pe_any (te := lift X.K te) amb.rm.room.hd (by have := amb.rm.dp; omega) hgl hm hc hN (amb.tb q hq) hcode hi ok gs.co gs.cell gs.dot hg he hs hse).imp fun _ _ _ h => lift_gx hq hv h
theorem je_all (amb : Amb (k + 1) X) (ig : InGen X) (gs : GScope scope) (hgl : Gl X "all") (hm : X.mg "all" = none) (hv : ∀ i ∈ tgSlots g, i ∈ own'.map (·.2)) (hc : X.calm = true) (hN : X.N.Nodup) (hi : JI X tg iter di) (ok : BlkOk X.N X.env.scope scope own')
    (hg : ∀ (s : Shared) (H : Hp) (C : Addr) (code : Value) (cl : List (Str × Addr)) (fp : List Addr) (A' : Around), RG.GAo X.A A' → PG (RG.GCx X s H (genEnv scope cl C code builtinsNs X.env) fp A') tg (tgH X.K g))
    (he : ∀ (s : Shared) (H : Hp) (C : Addr) (code : Value) (cl : List (Str × Addr)) (fp : List Addr) (A' : Around), RG.GAo X.A A' → JE (RG.GCx X s H (genEnv scope cl C code builtinsNs X.env) fp A') elt te)
    (hs : ∀ v, genFold iter X.env v = pure v := by intro _; rfl)
    (hse : starEach [.GeneratorExp elt [⟨tg, iter, [], 0⟩] scope gpos] X.env = (false, eval (.GeneratorExp elt [⟨tg, iter, [], 0⟩] scope gpos) X.env) :: starEach [] X.env := by rfl) :
    JE X (.Call (.Name "all" p) [.GeneratorExp elt [⟨tg, iter, [], 0⟩] scope gpos] [] pos) (dGx true di g te (own'.map (·.2))) := by
  obtain ⟨q, hq, hcode⟩ := ig
  exact (RG.pe_all (te := lift X.K te) amb.rm.room.hd (by have := amb.rm.dp; omega) hgl hm hc hN (amb.tb q hq) hcode hi ok gs.co gs.cell gs.dot hg he hs hse).imp fun _ _ _ h => lift_gx hq hv h
end
/-- a comprehension stored under a name that a block captures -/
theorem sw_cell {elt : Expr} {gs : List Comprehension} {scope : Scope} {pos py : Pos} {y : Str} {l : Nat} {env : Env} (hk : env.scope.kind = .function) (hy : env.scope.names.lookup y = some .cell) : swapsWith (.ListComp elt gs scope pos) (some (.Name y py)) l env = pure false := by
  have ky : env.kindOf y = some .cell := hy
  have hb : env.blockKind = .function := by unfold Env.blockKind; rw [hk]; rfl
  unfold swapsWith
  simp only [hb, ky]
  rfl
/-! ### what is never reached -/
def dNever : DS := fun _ _ => False
theorem js_never {X : Cx} {st : Stmt} : JS X st dNever := ⟨fun pins s σ H D I ⟨W, F, A, m, E, G, h, c⟩ => h.elim⟩
end RT

set_option maxRecDepth 100000
set_option maxHeartbeats 4000000
namespace RT
open PySem PySem.Spec PyProof.Rows L2
/-! zip of two tuples; of a tuple and a list -/
theorem walks_zipT {K : PySem.W.Frag} {F : Hp} {A : List Addr} {a b : Addr} {vs us : List V} {xs ys : List Dt} (s : SqT K F a vs) (r : Reps K F xs vs) (s' : SqT K F b us) (r' : Reps K F ys us) : Walks K (RZ.ItzT K a b) F A (zipD xs ys) none where
  go := fun W F' A' m σ H i x sF p G _ hi => by
    obtain ⟨y, z, hy, hz, rfl⟩ := zipD_get xs ys i x hi
    obtain ⟨v, hv, rv⟩ := r.get hy
    obtain ⟨w, hw, rw'⟩ := r'.get hz
    have sq : SqT K H a vs := seqT_mono (sF.trans G.ext) s
    have sq' : SqT K H b us := seqT_mono (sF.trans G.ext) s'
    refine ⟨⟨vs, us, v, w, sq, sq', hv, hw⟩, fun u H' y => ?_⟩
    obtain ⟨T, v', w', rfl, nT, rfl, y1, y2⟩ := y
    cases (y1 vs sq).symm.trans hv
    cases (y2 us sq').symm.trans hw
    exact tup_laid G nT (.cons (Rep.mono sF rv) (.cons (Rep.mono sF rw') .nil))
  stop := fun W F' A' m σ H sF p G _ => ⟨vs, us, seqT_mono (sF.trans G.ext) s, seqT_mono (sF.trans G.ext) s', by rw [zipD_len, ← r.length, ← r'.length]; omega⟩
theorem walks_zipM {K : PySem.W.Frag} {F : Hp} {A : List Addr} {a b : Addr} {vs us : List V} {xs ys : List Dt} (s : SqT K F a vs) (r : Reps K F xs vs) (s' : SqL K F b us) (r' : Reps K F ys us) : Walks K (RG.ItzM K a b) F A (zipD xs ys) none where
  go := fun W F' A' m σ H i x sF p G _ hi => by
    obtain ⟨y, z, hy, hz, rfl⟩ := zipD_get xs ys i x hi
    obtain ⟨v, hv, rv⟩ := r.get hy
    obtain ⟨w, hw, rw'⟩ := r'.get hz
    have sq : SqT K H a vs := seqT_mono (sF.trans G.ext) s
    have sq' : SqL K H b us := (sF.trans G.ext).seq s'
    refine ⟨⟨vs, us, v, w, sq, sq', hv, hw⟩, fun u H' y => ?_⟩
    obtain ⟨T, v', w', rfl, nT, rfl, y1, y2⟩ := y
    cases (y1 vs sq).symm.trans hv
    cases (y2 us sq').symm.trans hw
    exact tup_laid G nT (.cons (Rep.mono sF rv) (.cons (Rep.mono sF rw') .nil))
  stop := fun W F' A' m σ H sF p G _ => ⟨vs, us, seqT_mono (sF.trans G.ext) s, (sF.trans G.ext).seq s', by rw [zipD_len, ← r.length]; omega, by rw [zipD_len, ← r'.length]; omega, by rw [zipD_len, ← r.length, ← r'.length]; omega⟩
def dZipT (ts : DA) : DI := fun m Q => ts m fun vs m1 => match vs with
  | [.d (.tup xs), .d (.tup ys)] => Q (zipD xs ys) none m1
  | _ => False
def dZipM (ts : DA) : DI := fun m Q => ts m fun vs m1 => match vs with
  | [.d (.tup xs), .d (.lst ys)] => Q (zipD xs ys) none m1
  | _ => False
section
variable {X : Cx} {ts : DA} {e e2 : Expr} {p pos tpos : Pos} {elts : List Expr} {kk : Nat}
theorem ji_zipT (hg : Gl X "zip") (hm : X.mg "zip" = none) (ha : JA X [e, e2] ts)
    (hs : starEach [e, e2] X.env = (false, eval e X.env) :: starEach [e2] X.env := by rfl) (hpl : (backTo pos (starEach [e2] X.env)).any (·.1) = false := by rfl) :
    JI X (.Tuple elts kk tpos) (.Call (.Name "zip" p) [e, e2] [] pos) (dZipT ts) := by
  refine (RZ.pi_zipA hg hm ha hs hpl).imp fun σ H R hh => ?_
  obtain ⟨W, F, A, m, Qd, G, h, c⟩ := hh
  refine ⟨W, F, A, m, _, G, h, fun F1 A1 vs m1 H1 s1 p1 G1 q1 us r1 => ?_⟩
  split at q1
  · rename_i xs ys
    obtain ⟨u, w, rfl, ru, rw'⟩ := rv2 r1
    have r' : Rep X.K F1 (.tup xs) u := ru
    have r2' : Rep X.K F1 (.tup ys) w := rw'
    simp only [Rep] at r' r2'
    obtain ⟨a, ws, rfl, hs, rs⟩ := r'
    obtain ⟨b, ts, rfl, hs', rs'⟩ := r2'
    exact ⟨a, b, ws, ts, rfl, .inr ⟨seqT_mono G1.ext hs, seqT_mono G1.ext hs', c F1 A1 _ none m1 H1 s1 p1 G1 q1 _ (walks_zipT hs rs hs' rs')⟩⟩
  · exact q1.elim
theorem ji_zipM (hg : Gl X "zip") (hm : X.mg "zip" = none) (ha : JA X [e, e2] ts)
    (hs : starEach [e, e2] X.env = (false, eval e X.env) :: starEach [e2] X.env := by rfl) (hpl : (backTo pos (starEach [e2] X.env)).any (·.1) = false := by rfl) :
    JI X (.Tuple elts kk tpos) (.Call (.Name "zip" p) [e, e2] [] pos) (dZipM ts) := by
  refine (RG.pi_zipM hg hm ha hs hpl).imp fun σ H R hh => ?_
  obtain ⟨W, F, A, m, Qd, G, h, c⟩ := hh
  refine ⟨W, F, A, m, _, G, h, fun F1 A1 vs m1 H1 s1 p1 G1 q1 us r1 => ?_⟩
  split at q1
  · rename_i xs ys
    obtain ⟨u, w, rfl, ru, rw'⟩ := rv2 r1
    have r' : Rep X.K F1 (.tup xs) u := ru
    have r2' : Rep X.K F1 (.lst ys) w := rw'
    simp only [Rep] at r' r2'
    obtain ⟨a, ws, rfl, hs, rs⟩ := r'
    obtain ⟨b, ts, rfl, hs', rs'⟩ := r2'
    exact ⟨a, b, ws, ts, rfl, seqT_mono G1.ext hs, .inl (rd_mono G1.ext hs'), c F1 A1 _ none m1 H1 s1 p1 G1 q1 _ (walks_zipM hs rs (.inl hs') rs')⟩
  · exact q1.elim
end
end RT

set_option maxRecDepth 100000
set_option maxHeartbeats 4000000
namespace RT
open PySem PySem.Spec PyProof.Rows L2
section
variable {X : Cx} {pos : Pos}
theorem o_isNotB : OpD X (compareOp .IsNot) (rIsB true) := ⟨_, op_isnot_bl, fun W F A m σ H x y u v P Q G rx ry q c => by
  unfold rIsB at q
  split at q
  · exact ⟨_, _, repB_bl rx, repB_bl ry, c F H _ _ (Same.refl _) G rep_bl q⟩
  · exact q.elim⟩
theorem rv3 {K : PySem.W.Frag} {F : Hp} {A : List Addr} {x y z : Vl} {us : List V} (r : RepVs K F A [x, y, z] us) : ∃ u v w, us = [u, v, w] ∧ RepV K F A x u ∧ RepV K F A y v ∧ RepV K F A z w := by
  obtain ⟨u, r', rfl, h1, h2⟩ := r
  obtain ⟨v, w, rfl, h3, h4⟩ := rv2 h2
  exact ⟨u, v, w, rfl, h1, h3, h4⟩
/-- a, b, c = x, y, z -/
def dPar3 (i j l : Nat) (ts : DA) : DS := fun E m => ts m fun vs m1 => match vs with
  | [u, v, w] => E.nx ⟨((m1.sl.set i (some u)).set j (some v)).set l (some w), m1.st⟩
  | _ => False
theorem js_par3 {i j l : Nat} {x y z : Str} {a b c' : Expr} {ts : DA} {px py pz pt : Pos} {kt k2 pt2} (hc : X.calm = true) (hN : X.N.Nodup) (hi : X.N[i]? = some x) (hj : X.N[j]? = some y) (hl : X.N[l]? = some z) (hij : i ≠ j) (hil : i ≠ l) (hjl : j ≠ l)
    (hx : X.env.scope.names.lookup x = some .local) (hy : X.env.scope.names.lookup y = some .local) (hz : X.env.scope.names.lookup z = some .local) (ha : JA X [a, b, c'] ts)
    (hw : swappedStores [.Tuple [.Name x px, .Name y py, .Name z pz] kt pt] (.Tuple [a, b, c'] k2 pt2) X.env = pure (some [x, y, z]))
    (hs : swapsWithSole [.Tuple [.Name x px, .Name y py, .Name z pz] kt pt] (.Tuple [a, b, c'] k2 pt2) pos.line X.env = pure false := by rfl) :
    JS X (.Assign [.Tuple [.Name x px, .Name y py, .Name z pz] kt pt] (.Tuple [a, b, c'] k2 pt2) pos) (dPar3 i j l ts) := by
  refine (ps_par3 hc hN hi hj hl hij hil hjl hx hy hz ha hw hs).imp fun D σ H hh => ?_
  obtain ⟨W, F, A, m, E, G, h, c⟩ := hh
  refine ⟨W, F, A, m, _, G, h, fun F1 A1 vs m1 H1 s1 p1 G1 q1 us r1 => ?_⟩
  split at q1
  · rename_i u v w
    obtain ⟨a1, b1, c1, rfl, ra, rb, rc⟩ := rv3 r1
    exact ⟨a1, b1, c1, rfl, c.nx F1 A1 _ _ H1 s1 p1 (((G1.store ra).store rb).store rc) q1⟩
  · exact q1.elim
theorem swap3_ok {x y z : Str} {px py pz pt pt2 : Pos} {kt k2 : Nat} {a b c : Expr} (hk : X.env.scope.kind = .function) (hx : X.env.scope.names.lookup x = some .local) (hy : X.env.scope.names.lookup y = some .local) (hz : X.env.scope.names.lookup z = some .local) (hxy : ([x, y, z].eraseDups.length != 3) = false) (hl : (py.line == px.line) = true) (hl2 : (pz.line == px.line) = true)
    (hs1 : (match a with | .Starred .. => true | _ => false) = false) (hs2 : (match b with | .Starred .. => true | _ => false) = false) (hs3 : (match c with | .Starred .. => true | _ => false) = false) (hf : [a, b, c].all (foldedForSure 8) = false) (hc : [a, b, c].all (constantsAlone 8) = false) :
    swappedStores [.Tuple [.Name x px, .Name y py, .Name z pz] kt pt] (.Tuple [a, b, c] k2 pt2) X.env = pure (some [x, y, z]) := by
  have kx : X.env.kindOf x = some .local := hx
  have ky : X.env.kindOf y = some .local := hy
  have kz : X.env.kindOf z = some .local := hz
  have hb : X.env.blockKind = .function := by unfold Env.blockKind; rw [hk]; rfl
  unfold swappedStores
  simp only [hb, List.length_cons, List.length_nil, List.head?_cons, Option.map_some, Option.getD_some, List.filterMap_cons, List.filterMap_nil, kx, ky, kz, Expr.pos, hl, hl2, hf, hc, List.any_cons, List.any_nil, hs1, hs2, hs3]
  simp only [beq_self_eq_true, Bool.and_self, if_true, List.length_cons, List.length_nil, hxy]
  simp [hxy, hf, hc]
  intro h
  rcases h with h | h | h
  · cases a <;> first | (simp at h; done) | (simp at hs1; done)
  · cases b <;> first | (simp at h; done) | (simp at hs2; done)
  · cases c <;> first | (simp at h; done) | (simp at hs3; done)
end
end RT

set_option maxRecDepth 100000
set_option maxHeartbeats 4000000
namespace RT
open PySem PySem.Spec PyProof.Rows L2
section
variable {X : Cx} {o e : Expr} {es : List Expr} {to : DE} {ts : DA} {pos : Pos}
/-! l.remove(x), any items -/
def rRemD (K : PySem.W.Frag) : V → List V → Hp → VK → Prop := fun x xs H Q => ∃ (l : Addr) (y : V) (vs : List V) (d : PyData) (ds : List PyData) (j : Nat), x = .ref l ∧ xs = [y] ∧ H l = some (.lst vs) ∧ DpAll K H vs ds ∧ Dp K H y d ∧
  SeqAt.shaped (.list ds) = true ∧ SeqAt.shaped d = true ∧ (ds.findIdx? fun z => PyData.eqv z d) = some j ∧ Q .non (upd H l (.lst (vs.eraseIdx j)))
theorem mt_removeD (hu : X.A.units + 65 < cLine) : MtR X "list.remove" (rRemD X.K) := by
  intro pins s σ H x xs v us Q I rx rxs h
  obtain ⟨l, y, vs, d, ds, j, rfl, rfl, hH, hl, hy, sl, sd, hj, q⟩ := h
  cases rx
  obtain ⟨uy, rfl, ry⟩ := rxs.one
  obtain ⟨bs, r1⟩ := Dp.reads I d y uy hy ry
  have hxs : PyData.canLayAll0 ds = true := SeqAt.canLay_of_shaped sl
  have hroom : X.A.units + 1 + min (PyData.depthAll ds) d.depth < cLine := room_in_shaped sd hu
  obtain ⟨z, its, n, r, hlen, e0⟩ := I.lstM hH
  obtain ⟨as, h4⟩ := Dp.readsAll I ds vs its hl r
  have hn : its.length = ds.length := SeqAt.ReadsAll.length ds its as h4
  have hmap : its.map (SeqAt.readOf s.heap) = ds := SeqAt.readsAll_map ds its as hxs h4
  have hsl := sizeLine_eq
  obtain ⟨hjd, hit, hno⟩ := List.findIdx?_eq_some_iff_getElem.mp hj
  have hjl : j < its.toArray.size := by rw [List.size_toArray]; omega
  have at_ : ∀ (m : Nat) (hm : m < its.toArray.size) (hm' : m < ds.length), SeqAt.readOf s.heap its.toArray[m] = ds[m] := by
    intro m hm hm'
    have hml : m < its.length := by simpa using hm
    have e1 : (its.map (SeqAt.readOf s.heap))[m]? = ds[m]? := by rw [hmap]
    rw [List.getElem?_map, List.getElem?_eq_getElem hml, List.getElem?_eq_getElem hm'] at e1
    have e2 : SeqAt.readOf s.heap its[m] = ds[m] := Option.some.inj e1
    simpa using e2
  refine call_meets PySem.F.slot_list_remove ⟨_, e0, rfl⟩ PySem.F.entry_list_remove (PySem.F.args_list_remove_2 _ _)
    (SeqAt.list_removeAt l its.toArray n none #[] uy (fun u => PyData.eqv (SeqAt.readOf s.heap u) d) j hjl ?_ ?_ (by rw [List.size_toArray]; omega)) ⟨e0, SeqAt.items_eqAt (vs := its.toArray) (show ReadsAll s.heap its.toArray.toList ds as from h4) r1 hxs (SeqAt.canLay_of_shaped sd) hroom, ?_⟩
  · show PyData.eqv (SeqAt.readOf s.heap its.toArray[j]) d = true
    rw [at_ j hjl hjd]
    exact hit
  · intro m hm hmj
    have hmd : m < ds.length := by omega
    show PyData.eqv (SeqAt.readOf s.heap its.toArray[m]) d = false
    rw [at_ m hm hmd]
    have := hno m hmj
    simpa using this
  · have rr := r.eraseIdx j
    refine ⟨.non, _, I.lset (its' := its.eraseIdx j) (t' := s.toks) hH e0 ?_ rr ?_, rfl, q⟩
    · show its.toArray.eraseIdxIfInBounds j = (its.eraseIdx j).toArray
      rw [List.eraseIdxIfInBounds_toArray]
    · have z2 := len_erase vs j
      omega
def MetD2 (X : Cx) (id : String) (op : MOp) : Prop := ∃ R, MtR X id R ∧ ∀ (F H : Hp) (a : Addr) (xs ys : List Dt) (vs us : List V) (P : List Dt → Dt → Prop) (Q : VK), Same F H → H a = some (.lst vs) → Reps X.K F xs vs → Reps X.K F ys us → op xs ys P →
  (∀ xs' ws r u, Reps X.K F xs' ws → Rep X.K F r u → P xs' r → Q u (upd H a (.lst ws))) → R (.ref a) us H Q
theorem je_meth2 {op : MOp} {id : String} {name : Str} {apos cpos : Pos} (slot : Slot "list" name id) (hty : typeOf (.builtin id) = pure (.type "method_descriptor")) (hm : MetD2 X id op) (ho : JE X o to) (ha : JA X (e :: es) ts)
    (hbase : attributeBase o name X.env (eval o X.env) = eval o X.env := by rfl)
    (hfew : ((backTo cpos (starEach (e :: es) X.env)).all (fun x => !x.1) && (backToKw cpos (keywordEach [] X.env)).all (fun x => x.1.isSome)
      && decide ((e :: es).length + ([] : List Keyword).length + (if ([] : List Keyword).isEmpty then 0 else 1) < 30)) = true := by rfl)
    (hline : (apos.endLine == cpos.line) = true := by rfl) (hs : starEach (e :: es) X.env = (false, eval e X.env) :: starEach es X.env := by rfl) (hplain : (backTo cpos (starEach es X.env)).any (·.1) = false := by rfl) :
    JE X (.Call (.Attribute o name apos) (e :: es) [] cpos) (dMeth op to ts) := by
  obtain ⟨R, hR, hv⟩ := hm
  refine (pe_bm PySem.F.plainAttrs_list slot hty hR ho ha hbase hfew hline hs hplain).imp fun σ H Q hh => ?_
  obtain ⟨W, F, A, m, Qd, G, h, c⟩ := hh
  refine ⟨W, F, A, m, _, G, h, fun F1 A1 v m1 H1 s1 p1 G1 q1 u r1 => ?_⟩
  obtain ⟨k, rfl, ⟨zs, ez⟩, q1⟩ := cell_elim q1
  obtain ⟨a, ha', rfl⟩ := r1
  obtain ⟨a', ws, h1, h2, _, _⟩ := G1.st k zs ez
  rw [ha'] at h1
  cases h1
  refine ⟨.inl ⟨rfl, _, SqL.of h2⟩, W, F1, A1, m1, _, G1, q1, fun F2 A2 vs m2 H2 s2 p2 G2 q2 us r2 => ?_⟩
  obtain ⟨ys, rfl, q3⟩ := onDs_elim q2
  obtain ⟨xs, ex, q2⟩ := onC_elim q3
  obtain ⟨a', vs', g1, g2, g3, _⟩ := G2.st k xs ex
  obtain ⟨_, hka, ek⟩ := RepV.mono (K := X.K) s2 p2 (show RepV X.K F1 A1 (.c k) (.ref a) from ⟨a, ha', rfl⟩)
  cases ek
  rw [hka] at g1
  cases g1
  exact hv F2 H2 a xs ys vs' us _ Q G2.ext g2 g3 (reps_of r2) q2 fun xs' ws r u rw' ru pq => c F2 A2 (.d r) _ _ (s1.trans s2) (p1.trans p2) (G2.write ex hka rw') pq u ru
theorem reps_erase {K : PySem.W.Frag} {F : Hp} : ∀ {xs : List Dt} {vs : List V} (j : Nat), Reps K F xs vs → Reps K F (xs.eraseIdx j) (vs.eraseIdx j)
  | [], vs, j, r => by
    simp only [Reps] at r
    rw [r]
    simp [Reps]
  | x :: xs, vs, j, r => by
    simp only [Reps] at r
    obtain ⟨u, r', rfl, h1, h2⟩ := r
    cases j with
    | zero => exact h2
    | succ j =>
      rw [List.eraseIdx_cons_succ, List.eraseIdx_cons_succ]
      simp only [Reps]
      exact ⟨u, _, rfl, h1, reps_erase j h2⟩
theorem find_py (xs : List Dt) (y : Dt) : ((toPys xs).findIdx? fun z => PyData.eqv z (toPy y)) = xs.findIdx? fun z => eqD z y := by
  rw [toPys_map, List.findIdx?_map]
  rfl
theorem m_remove {k : Nat} (hr : GRoom k X.A) : MetD2 X "list.remove" mRemove := ⟨_, mt_removeD (by have := hr.room.un; omega), fun F H a xs ys vs us P Q s hH r r' q c => by
  unfold mRemove at q
  split at q
  · rename_i y
    obtain ⟨u, rfl, ru⟩ := reps1 r'
    obtain ⟨q1, q2, q3⟩ := q
    cases hf : xs.findIdx? fun z => eqD z y with
    | none =>
      rw [hf] at q3
      exact q3.elim
    | some j =>
      rw [hf] at q3
      refine ⟨a, u, vs, toPy y, toPys xs, j, rfl, rfl, hH, dps_of (Reps.mono s r), dp_of (Rep.mono s ru), ?_, q1, ?_, c _ _ .non .non (reps_erase j r) rep_non q3⟩
      · have := q2
        unfold shD toPy at this
        exact this
      · rw [find_py]
        exact hf
  · exact q.elim⟩
end
end RT

set_option maxRecDepth 100000
set_option maxHeartbeats 4000000
namespace PG
open PySem PySem.Spec PyProof.Rows L2 RT

def w_common_divisor : DS := (dSeq (dSet 2 (dBi bAbs (dCons (dVar 0) dNil)))
  (dSeq (dSet 3 (dBi bAbs (dCons (dVar 1) dNil)))
  (dSeq (dWhile (dTest (dOp rGt (dVar 3) (dC (.int 0))))
  (dPar 2 3 (dCons (dVar 3) (dCons (dOp rMod (dVar 2) (dVar 3)) dNil))))
  (dRet (dVar 2)))))
@[irreducible] def sp_common_divisor : FSpec := spOf false 2 4 w_common_divisor

def w_fraction : DS := (dSeq (dSet 2 (dCall PG.sp_common_divisor [] (dCons (dVar 0) (dCons (dVar 1) dNil))))
  (dSeq (dIfS (dTest (dOp rLt (dVar 1) (dC (.int 0))))
  (dSet 2 (rU rNeg (dVar 2)))
  dNext)
  (dRet (dTup (dCons (dOp rDiv (dVar 0) (dVar 2)) (dCons (dOp rDiv (dVar 1) (dVar 2)) dNil))))))
@[irreducible] def sp_fraction : FSpec := spOf false 2 3 w_fraction

def w_add : DS := (dRet (dCall PG.sp_fraction [] (dCons (dOp rAddA (dOp rMul (dOp rIx (dVar 0) (dC (.int 0))) (dOp rIx (dVar 1) (dC (.int 1)))) (dOp rMul (dOp rIx (dVar 1) (dC (.int 0))) (dOp rIx (dVar 0) (dC (.int 1))))) (dCons (dOp rMul (dOp rIx (dVar 0) (dC (.int 1))) (dOp rIx (dVar 1) (dC (.int 1)))) dNil))))
@[irreducible] def sp_add : FSpec := spOf false 2 2 w_add

def w_negative : DS := (dRet (dTup (dCons (rU rNeg (dOp rIx (dVar 0) (dC (.int 0)))) (dCons (dOp rIx (dVar 0) (dC (.int 1))) dNil))))
@[irreducible] def sp_negative : FSpec := spOf false 1 1 w_negative

def w_subtract : DS := (dRet (dCall PG.sp_add [] (dCons (dVar 0) (dCons (dCall PG.sp_negative [] (dCons (dVar 1) dNil)) dNil))))
@[irreducible] def sp_subtract : FSpec := spOf false 2 2 w_subtract

def w_multiply : DS := (dRet (dCall PG.sp_fraction [] (dCons (dOp rMul (dOp rIx (dVar 0) (dC (.int 0))) (dOp rIx (dVar 1) (dC (.int 0)))) (dCons (dOp rMul (dOp rIx (dVar 0) (dC (.int 1))) (dOp rIx (dVar 1) (dC (.int 1)))) dNil))))
@[irreducible] def sp_multiply : FSpec := spOf false 2 2 w_multiply

def w_divide : DS := (dRet (dCall PG.sp_fraction [] (dCons (dOp rMul (dOp rIx (dVar 0) (dC (.int 0))) (dOp rIx (dVar 1) (dC (.int 1)))) (dCons (dOp rMul (dOp rIx (dVar 0) (dC (.int 1))) (dOp rIx (dVar 1) (dC (.int 0)))) dNil))))
@[irreducible] def sp_divide : FSpec := spOf false 2 2 w_divide

def w_sign : DS := (dSeq (dIfS (dTest (dOp rGt (dOp rIx (dVar 0) (dC (.int 0))) (dC (.int 0))))
  (dRet (dC (.int 1)))
  dNext)
  (dSeq (dIfS (dTest (dOp rLt (dOp rIx (dVar 0) (dC (.int 0))) (dC (.int 0))))
  (dRet (rU rNeg (dC (.int 1))))
  dNext)
  (dRet (dC (.int 0)))))
@[irreducible] def sp_sign : FSpec := spOf false 1 1 w_sign

def w_compare : DS := (dRet (dCall PG.sp_sign [] (dCons (dCall PG.sp_subtract [] (dCons (dVar 0) (dCons (dVar 1) dNil))) dNil)))
@[irreducible] def sp_compare : FSpec := spOf false 2 2 w_compare

def w_is_less : DS := (dRet (dOp rLt (dCall PG.sp_compare [] (dCons (dVar 0) (dCons (dVar 1) dNil))) (dC (.int 0))))
@[irreducible] def sp_is_less : FSpec := spOf false 2 2 w_is_less

def w_is_at_most : DS := (dRet (dOp rLe (dCall PG.sp_compare [] (dCons (dVar 0) (dCons (dVar 1) dNil))) (dC (.int 0))))
@[irreducible] def sp_is_at_most : FSpec := spOf false 2 2 w_is_at_most

def w_absolute : DS := (dRet (dTup (dCons (dBi bAbs (dCons (dOp rIx (dVar 0) (dC (.int 0))) dNil)) (dCons (dOp rIx (dVar 0) (dC (.int 1))) dNil))))
@[irreducible] def sp_absolute : FSpec := spOf false 1 1 w_absolute

def w__law_cell : DS := (dSeq (dIfS (dTest (dOp rLt (dVar 1) (dBi bLen (dCons (dVar 0) dNil))))
  (dRet (dOp rIx (dVar 0) (dVar 1)))
  dNext)
  (dRet (dC (.int 0))))
@[irreducible] def sp__law_cell : FSpec := spOf false 2 2 w__law_cell

def w__law_digits : DS := (dSeq (dSet 3 (dLstO dNil))
  (dSeq (dFor (dRange2 (dCons (dVar 1) (dCons (dVar 2) dNil))) (.nm 4)
  (dSeq (dSet 5 (dCall PG.sp__law_cell [] (dCons (dVar 0) (dCons (dVar 4) dNil))))
  (dSeq (dIfS (dTest (dOp rLt (dVar 5) (dC (.int 0))))
  (dSet 5 (dOp rSub (dC (.int 1)) (dOp rMul (dC (.int 2)) (dVar 5))))
  dNext)
  (dIfS (dTest (dOp rGe (dVar 5) (dOp rPow (dC (.int 10)) (dC (.int 18)))))
  (dFor (dRange1 (dCons (dC (.int 60)) dNil)) (.nm 6)
  (dIfS (dTest (dOp rGt (dVar 5) (dC (.int 0))))
  (dSeq (dDo (dMeth mAppend (dVar 3) (dCons (dOp rMod (dBi bInt (dCons (dVar 5) dNil)) (dC (.int 1000))) dNil)))
  (dSet 5 (dOp rDiv (dVar 5) (dC (.int 1000)))))
  dNext))
  (dSeq (dSet 7 (dOp rMod (dBi bInt (dCons (dOp rAddA (dOp rAddA (dOp rMul (dVar 5) (dC (.int 48271))) (dOp rMul (dVar 4) (dC (.int 69621)))) (dC (.int 11))) dNil)) (dC (.int 2147483647))))
  (dFor (dRange1 (dCons (dC (.int 12)) dNil)) (.nm 6)
  (dSeq (dSet 7 (dOp rMod (dBi bInt (dCons (dOp rAddA (dOp rAddA (dOp rMul (dVar 7) (dC (.int 16807))) (dOp rMul (dC (.int 7)) (dVar 6))) (dC (.int 1))) dNil)) (dC (.int 2147483647))))
  (dDo (dMeth mAppend (dVar 3) (dCons (dOp rMod (dBi bInt (dCons (dOp rDiv (dVar 7) (dC (.int 997))) dNil)) (dC (.int 1000))) dNil))))))))))
  (dRet (dVar 3))))
@[irreducible] def sp__law_digits : FSpec := spOf false 3 8 w__law_digits

def w__law_draw : DS := (dSeq (dSet 2 (dOp rIx (dVar 0) (dC (.int 1))))
  (dSeq (dSetIx (dOp rAddA (dVar 2) (dC (.int 1))) (dVar 0) (dC (.int 1)))
  (dSeq (dIfS (dTest (dOp rLt (dVar 2) (dBi bLen (dCons (dOp rIx (dVar 0) (dC (.int 0))) dNil))))
  (dRet (dOp rMod (dBi bInt (dCons (dOp rIx (dOp rIx (dVar 0) (dC (.int 0))) (dVar 2)) dNil)) (dVar 1)))
  dNext)
  (dRet (dC (.int 0))))))
@[irreducible] def sp__law_draw : FSpec := spOf false 2 3 w__law_draw

def w__law_divisor : DS := (dSeq (dSet 0 (dBi bAbs (dCons (dVar 0) dNil)))
  (dSeq (dSet 1 (dBi bAbs (dCons (dVar 1) dNil)))
  (dSeq (dFor (dRange1 (dCons (dC (.int 400)) dNil)) (.nm 2)
  (dIfS (dTest (dOp rGt (dVar 1) (dC (.int 0))))
  (dPar 0 1 (dCons (dVar 1) (dCons (dOp rMod (dVar 0) (dVar 1)) dNil)))
  dNext))
  (dRet (dVar 0)))))
@[irreducible] def sp__law_divisor : FSpec := spOf false 2 3 w__law_divisor

def w__law_fr : DS := (dSeq (dIfS (dTest (dOp rLt (dVar 1) (dC (.int 0))))
  (dSeq (dSet 0 (dOp rSub (dC (.int 0)) (dVar 0)))
  (dSet 1 (dOp rSub (dC (.int 0)) (dVar 1))))
  dNext)
  (dSeq (dSet 2 (dCall PG.sp__law_divisor [] (dCons (dVar 0) (dCons (dVar 1) dNil))))
  (dRet (dTup (dCons (dOp rDiv (dVar 0) (dVar 2)) (dCons (dOp rDiv (dVar 1) (dVar 2)) dNil))))))
@[irreducible] def sp__law_fr : FSpec := spOf false 2 3 w__law_fr

def w__law_add : DS := (dRet (dCall PG.sp__law_fr [] (dCons (dOp rAddA (dOp rMul (dOp rIx (dVar 0) (dC (.int 0))) (dOp rIx (dVar 1) (dC (.int 1)))) (dOp rMul (dOp rIx (dVar 1) (dC (.int 0))) (dOp rIx (dVar 0) (dC (.int 1))))) (dCons (dOp rMul (dOp rIx (dVar 0) (dC (.int 1))) (dOp rIx (dVar 1) (dC (.int 1)))) dNil))))
@[irreducible] def sp__law_add : FSpec := spOf false 2 2 w__law_add

def w__law_sub : DS := (dRet (dCall PG.sp__law_fr [] (dCons (dOp rSub (dOp rMul (dOp rIx (dVar 0) (dC (.int 0))) (dOp rIx (dVar 1) (dC (.int 1)))) (dOp rMul (dOp rIx (dVar 1) (dC (.int 0))) (dOp rIx (dVar 0) (dC (.int 1))))) (dCons (dOp rMul (dOp rIx (dVar 0) (dC (.int 1))) (dOp rIx (dVar 1) (dC (.int 1)))) dNil))))
@[irreducible] def sp__law_sub : FSpec := spOf false 2 2 w__law_sub

def w__law_mul : DS := (dRet (dCall PG.sp__law_fr [] (dCons (dOp rMul (dOp rIx (dVar 0) (dC (.int 0))) (dOp rIx (dVar 1) (dC (.int 0)))) (dCons (dOp rMul (dOp rIx (dVar 0) (dC (.int 1))) (dOp rIx (dVar 1) (dC (.int 1)))) dNil))))
@[irreducible] def sp__law_mul : FSpec := spOf false 2 2 w__law_mul

def w__law_less : DS := (dRet (dOp rLt (dOp rMul (dOp rIx (dVar 0) (dC (.int 0))) (dOp rIx (dVar 1) (dC (.int 1)))) (dOp rMul (dOp rIx (dVar 1) (dC (.int 0))) (dOp rIx (dVar 0) (dC (.int 1))))))
@[irreducible] def sp__law_less : FSpec := spOf false 2 2 w__law_less

def w__law_some : DS := (dRet (dCall PG.sp__law_fr [] (dCons (dOp rSub (dCall PG.sp__law_draw [] (dCons (dVar 0) (dCons (dC (.int 13)) dNil))) (dC (.int 6))) (dCons (dOp rIx (dLst (dCons (dC (.int 1)) (dCons (dC (.int 1)) (dCons (dC (.int 1)) (dCons (dC (.int 2)) (dCons (dC (.int 3)) (dCons (dC (.int 4)) dNil))))))) (dCall PG.sp__law_draw [] (dCons (dVar 0) (dCons (dC (.int 6)) dNil)))) dNil))))
@[irreducible] def sp__law_some : FSpec := spOf false 1 1 w__law_some

def w__law_other : DS := (dSeq (dSet 1 (dCall PG.sp__law_some [] (dCons (dVar 0) dNil)))
  (dSeq (dIfS (dTest (dOp rEq (dOp rIx (dVar 1) (dC (.int 0))) (dC (.int 0))))
  (dRet (dTup (dCons (dC (.int 1)) (dCons (dC (.int 2)) dNil))))
  dNext)
  (dRet (dVar 1))))
@[irreducible] def sp__law_other : FSpec := spOf false 1 2 w__law_other

def w__law_is_fr : DS := (dSeq (dIfS (dOr (dNot (dTru (dIsi .tuple (dVar 0)))) (dOr (dTest (dOp rNe (dBi bLen (dCons (dVar 0) dNil)) (dC (.int 2)))) (dOr (dTru (dIsi .bool (dOp rIx (dVar 0) (dC (.int 0))))) (dTru (dIsi .bool (dOp rIx (dVar 0) (dC (.int 1))))))))
  (dRet (dC (.bl false)))
  dNext)
  (dRet (dAndV (dIsi .int (dOp rIx (dVar 0) (dC (.int 0)))) (dAndV (dIsi .int (dOp rIx (dVar 0) (dC (.int 1)))) (dAndV (dOp rGt (dOp rIx (dVar 0) (dC (.int 1))) (dC (.int 0))) (dOp rEq (dCall PG.sp__law_divisor [] (dCons (dOp rIx (dVar 0) (dC (.int 0))) (dCons (dOp rIx (dVar 0) (dC (.int 1))) dNil))) (dC (.int 1))))))))
@[irreducible] def sp__law_is_fr : FSpec := spOf false 1 1 w__law_is_fr

def w__law_wide : DS := (dSeq (dSet 1 (dOp rSub (dOp rMul (dCall PG.sp__law_draw [] (dCons (dVar 0) (dCons (dC (.int 1000)) dNil))) (dCall PG.sp__law_draw [] (dCons (dVar 0) (dCons (dC (.int 40)) dNil)))) (dC (.int 300))))
  (dRet (dCall PG.sp__law_fr [] (dCons (dVar 1) (dCons (dOp rAddA (dC (.int 1)) (dOp rMul (dCall PG.sp__law_draw [] (dCons (dVar 0) (dCons (dC (.int 60)) dNil))) (dCall PG.sp__law_draw [] (dCons (dVar 0) (dCons (dC (.int 60)) dNil))))) dNil)))))
@[irreducible] def sp__law_wide : FSpec := spOf false 1 2 w__law_wide

def w__law_is : DS := (dRet (dAndV (dCall PG.sp__law_is_fr [] (dCons (dVar 0) dNil)) (dOp rEq (dOp rMul (dOp rIx (dVar 0) (dC (.int 0))) (dVar 2)) (dOp rMul (dVar 1) (dOp rIx (dVar 0) (dC (.int 1)))))))
@[irreducible] def sp__law_is : FSpec := spOf false 3 3 w__law_is

def w_law : DS := (dSeq (dSet 1 (dLstO (dCons (dCall PG.sp__law_digits [] (dCons (dVar 0) (dCons (dC (.int 0)) (dCons (dC (.int 63)) dNil)))) (dCons (dC (.int 0)) dNil))))
  (dSeq (dSet 2 (dCall PG.sp__law_wide [] (dCons (dVar 1) dNil)))
  (dSeq (dSet 3 (dCall PG.sp__law_wide [] (dCons (dVar 1) dNil)))
  (dSeq (dIfS (dOr (dNot (dTru (dCall PG.sp__law_is [] (dCons (dCall PG.sp_add [] (dCons (dVar 2) (dCons (dVar 3) dNil))) (dCons (dOp rAddA (dOp rMul (dOp rIx (dVar 2) (dC (.int 0))) (dOp rIx (dVar 3) (dC (.int 1)))) (dOp rMul (dOp rIx (dVar 3) (dC (.int 0))) (dOp rIx (dVar 2) (dC (.int 1))))) (dCons (dOp rMul (dOp rIx (dVar 2) (dC (.int 1))) (dOp rIx (dVar 3) (dC (.int 1)))) dNil)))))) (dNot (dTru (dCall PG.sp__law_is [] (dCons (dCall PG.sp_multiply [] (dCons (dVar 2) (dCons (dVar 3) dNil))) (dCons (dOp rMul (dOp rIx (dVar 2) (dC (.int 0))) (dOp rIx (dVar 3) (dC (.int 0)))) (dCons (dOp rMul (dOp rIx (dVar 2) (dC (.int 1))) (dOp rIx (dVar 3) (dC (.int 1)))) dNil)))))))
  (dRet (dC (.bl false)))
  dNext)
  (dSeq (dIfS (dOr (dNot (dTru (dCall PG.sp__law_is [] (dCons (dCall PG.sp_subtract [] (dCons (dVar 2) (dCons (dVar 3) dNil))) (dCons (dOp rSub (dOp rMul (dOp rIx (dVar 2) (dC (.int 0))) (dOp rIx (dVar 3) (dC (.int 1)))) (dOp rMul (dOp rIx (dVar 3) (dC (.int 0))) (dOp rIx (dVar 2) (dC (.int 1))))) (dCons (dOp rMul (dOp rIx (dVar 2) (dC (.int 1))) (dOp rIx (dVar 3) (dC (.int 1)))) dNil)))))) (dNot (dTru (dCall PG.sp__law_is [] (dCons (dCall PG.sp_negative [] (dCons (dVar 2) dNil)) (dCons (dOp rSub (dC (.int 0)) (dOp rIx (dVar 2) (dC (.int 0)))) (dCons (dOp rIx (dVar 2) (dC (.int 1))) dNil)))))))
  (dRet (dC (.bl false)))
  dNext)
  (dSeq (dIfS (dTest (dOp rNe (dOp rIx (dVar 3) (dC (.int 0))) (dC (.int 0))))
  (dSeq (dSet 4 (dCall PG.sp_divide [] (dCons (dVar 2) (dCons (dVar 3) dNil))))
  (dSeq (dIfS (dOr (dNot (dTru (dCall PG.sp__law_is_fr [] (dCons (dVar 4) dNil)))) (dTest (dOp rNe (dOp rMul (dOp rMul (dOp rIx (dVar 4) (dC (.int 0))) (dOp rIx (dVar 2) (dC (.int 1)))) (dOp rIx (dVar 3) (dC (.int 0)))) (dOp rMul (dOp rMul (dOp rIx (dVar 2) (dC (.int 0))) (dOp rIx (dVar 3) (dC (.int 1)))) (dOp rIx (dVar 4) (dC (.int 1)))))))
  (dRet (dC (.bl false)))
  dNext)
  (dIfS (dNot (dTru (dCall PG.sp__law_is [] (dCons (dCall PG.sp_fraction [] (dCons (dOp rMul (dOp rIx (dVar 2) (dC (.int 0))) (dC (.int 6))) (dCons (dOp rMul (dOp rIx (dVar 3) (dC (.int 0))) (dC (.int 4))) dNil))) (dCons (dOp rMul (dOp rIx (dVar 2) (dC (.int 0))) (dC (.int 3))) (dCons (dOp rMul (dOp rIx (dVar 3) (dC (.int 0))) (dC (.int 2))) dNil))))))
  (dRet (dC (.bl false)))
  dNext)))
  dNext)
  (dSeq (dSet 5 (dC (.int 0)))
  (dSeq (dIfS (dTru (dCall PG.sp__law_less [] (dCons (dVar 2) (dCons (dVar 3) dNil))))
  (dSet 5 (rU rNeg (dC (.int 1))))
  dNext)
  (dSeq (dIfS (dTru (dCall PG.sp__law_less [] (dCons (dVar 3) (dCons (dVar 2) dNil))))
  (dSet 5 (dC (.int 1)))
  dNext)
  (dSeq (dIfS (dOr (dTest (dOp rNe (dCall PG.sp_compare [] (dCons (dVar 2) (dCons (dVar 3) dNil))) (dVar 5))) (dOr (dTest (dOp rNe (dCall PG.sp_is_less [] (dCons (dVar 2) (dCons (dVar 3) dNil))) (dOp rLt (dVar 5) (dC (.int 0))))) (dTest (dOp rNe (dCall PG.sp_is_at_most [] (dCons (dVar 2) (dCons (dVar 3) dNil))) (dOp rLt (dVar 5) (dC (.int 1)))))))
  (dRet (dC (.bl false)))
  dNext)
  (dSeq (dIfS (dOr (dTest (dOp rNe (dOp rMul (dCall PG.sp_sign [] (dCons (dVar 2) dNil)) (dBi bAbs (dCons (dOp rIx (dVar 2) (dC (.int 0))) dNil))) (dOp rIx (dVar 2) (dC (.int 0))))) (dNot (dTru (dCall PG.sp__law_is [] (dCons (dCall PG.sp_absolute [] (dCons (dVar 2) dNil)) (dCons (dBi bAbs (dCons (dOp rIx (dVar 2) (dC (.int 0))) dNil)) (dCons (dOp rIx (dVar 2) (dC (.int 1))) dNil)))))))
  (dRet (dC (.bl false)))
  dNext)
  (dRet (dOp rEq (dCall PG.sp_common_divisor [] (dCons (dOp rMul (dOp rIx (dVar 2) (dC (.int 0))) (dC (.int 12))) (dCons (dOp rMul (dOp rIx (dVar 3) (dC (.int 0))) (dC (.int 12))) dNil))) (dOp rMul (dC (.int 12)) (dCall PG.sp__law_divisor [] (dCons (dOp rIx (dVar 2) (dC (.int 0))) (dCons (dOp rIx (dVar 3) (dC (.int 0))) dNil)))))))))))))))))
@[irreducible] def sp_law : FSpec := spOf false 1 6 w_law

def v_ZERO : Dt := .tup [.int 0, .int 1]

def w_least_of : DS := (dSeq (dSet 1 (dC .non))
  (dSeq (dFor (dAny (dVar 0)) (.nm 2)
  (dIfS (dAnd (dTest (dNotN (dVar 2))) (dOr (dTest (dIsN (dVar 1))) (dTru (dCall PG.sp_is_less [] (dCons (dVar 2) (dCons (dVar 1) dNil))))))
  (dSet 1 (dVar 2))
  dNext))
  (dRet (dVar 1))))
@[irreducible] def sp_least_of : FSpec := spOf false 1 3 w_least_of

def w_greatest_of : DS := (dSeq (dSet 1 (dC .non))
  (dSeq (dFor (dAny (dVar 0)) (.nm 2)
  (dIfS (dAnd (dTest (dNotN (dVar 2))) (dOr (dTest (dIsN (dVar 1))) (dTru (dCall PG.sp_is_less [] (dCons (dVar 1) (dCons (dVar 2) dNil))))))
  (dSet 1 (dVar 2))
  dNext))
  (dRet (dVar 1))))
@[irreducible] def sp_greatest_of : FSpec := spOf false 1 3 w_greatest_of

def w_nearest_to_zero : DS := (dSeq (dIfS (dAnd (dTest (dNotN (dVar 0))) (dTest (dOp rGt (dCall PG.sp_sign [] (dCons (dVar 0) dNil)) (dC (.int 0)))))
  (dRet (dVar 0))
  dNext)
  (dSeq (dIfS (dAnd (dTest (dNotN (dVar 1))) (dTest (dOp rLt (dCall PG.sp_sign [] (dCons (dVar 1) dNil)) (dC (.int 0)))))
  (dRet (dVar 1))
  dNext)
  (dRet (dC PG.v_ZERO))))
@[irreducible] def sp_nearest_to_zero : FSpec := spOf false 2 2 w_nearest_to_zero

def w_law_2 : DS := (dSeq (dSet 1 (dLstO (dCons (dCall PG.sp__law_digits [] (dCons (dVar 0) (dCons (dC (.int 0)) (dCons (dC (.int 63)) dNil)))) (dCons (dC (.int 0)) dNil))))
  (dSeq (dFor (dRange1 (dCons (dC (.int 4)) dNil)) (.nm 2)
  (dSeq (dSet 3 (dLstO dNil))
  (dSeq (dFor (dRange1 (dCons (dCall PG.sp__law_draw [] (dCons (dVar 1) (dCons (dC (.int 7)) dNil))) dNil)) (.nm 4)
  (dDo (dMeth mAppend (dVar 3) (dCons (dOp rIx (dLst (dCons (dC .non) (dCons (dCall PG.sp__law_some [] (dCons (dVar 1) dNil)) (dCons (dCall PG.sp__law_some [] (dCons (dVar 1) dNil)) dNil)))) (dCall PG.sp__law_draw [] (dCons (dVar 1) (dCons (dC (.int 3)) dNil)))) dNil))))
  (dSeq (dSet 5 (dC .non))
  (dSeq (dSet 6 (dC .non))
  (dSeq (dFor (dAny (dVar 3)) (.nm 7)
  (dIfS (dTest (dNotN (dVar 7)))
  (dSeq (dIfS (dOr (dTest (dIsN (dVar 5))) (dTru (dCall PG.sp__law_less [] (dCons (dVar 7) (dCons (dVar 5) dNil)))))
  (dSet 5 (dVar 7))
  dNext)
  (dIfS (dOr (dTest (dIsN (dVar 6))) (dTru (dCall PG.sp__law_less [] (dCons (dVar 6) (dCons (dVar 7) dNil)))))
  (dSet 6 (dVar 7))
  dNext))
  dNext))
  (dSeq (dIfS (dOr (dTest (dOp rNe (dCall PG.sp_least_of [] (dCons (dFz 3) dNil)) (dVar 5))) (dTest (dOp rNe (dCall PG.sp_greatest_of [] (dCons (dFz 3) dNil)) (dVar 6))))
  (dRet (dC (.bl false)))
  dNext)
  (dSeq (dSet 8 (dCall PG.sp__law_some [] (dCons (dVar 1) dNil)))
  (dSeq (dSet 9 (dCall PG.sp__law_add [] (dCons (dVar 8) (dCons (dCall PG.sp__law_fr [] (dCons (dCall PG.sp__law_draw [] (dCons (dVar 1) (dCons (dC (.int 9)) dNil))) (dCons (dC (.int 2)) dNil))) dNil))))
  (dSeq (dSet 10 (dCall PG.sp__law_draw [] (dCons (dVar 1) (dCons (dC (.int 4)) dNil))))
  (dSeq (dSet 11 (dTup (dCons (dC (.int 0)) (dCons (dC (.int 1)) dNil))))
  (dSeq (dIfS (dAnd (dTest (dOp rLt (dVar 10) (dC (.int 2)))) (dTru (dCall PG.sp__law_less [] (dCons (dTup (dCons (dC (.int 0)) (dCons (dC (.int 1)) dNil))) (dCons (dVar 8) dNil)))))
  (dSet 11 (dVar 8))
  dNext)
  (dSeq (dIfS (dAnd (dTest (dOp rNe (dVar 10) (dC (.int 1)))) (dAnd (dTest (dOp rNe (dVar 10) (dC (.int 3)))) (dTru (dCall PG.sp__law_less [] (dCons (dVar 9) (dCons (dTup (dCons (dC (.int 0)) (dCons (dC (.int 1)) dNil))) dNil))))))
  (dSet 11 (dVar 9))
  dNext)
  (dIfS (dTest (dOp rNe (dCall PG.sp_nearest_to_zero [] (dCons (dOp rIx (dLst (dCons (dVar 8) (dCons (dVar 8) (dCons (dC .non) (dCons (dC .non) dNil))))) (dVar 10)) (dCons (dOp rIx (dLst (dCons (dVar 9) (dCons (dC .non) (dCons (dVar 9) (dCons (dC .non) dNil))))) (dVar 10)) dNil))) (dVar 11)))
  (dRet (dC (.bl false)))
  dNext))))))))))))))
  (dRet (dC (.bl true)))))
@[irreducible] def sp_law_2 : FSpec := spOf false 1 12 w_law_2

def w_passes_stop : DS := (dSeq (dIfS (dAnd (dTest (dNotN (dOp rIx (dVar 0) (dC (.int 1))))) (dNot (dTru (dCall PG.sp_is_at_most [] (dCons (dOp rIx (dVar 0) (dC (.int 1))) (dCons (dVar 1) dNil))))))
  (dRet (dC (.bl false)))
  dNext)
  (dRet (dOrV (dIsN (dOp rIx (dVar 0) (dC (.int 2)))) (dCall PG.sp_is_at_most [] (dCons (dVar 1) (dCons (dOp rIx (dVar 0) (dC (.int 2))) dNil))))))
@[irreducible] def sp_passes_stop : FSpec := spOf false 2 2 w_passes_stop

def w_gone_through : DS := (dSeq (dAsg (dVar 1) (.tp [2, 3]))
  (dSeq (dIfS (dTest (dOp rEq (dOp rIx (dVar 0) (dC (.int 0))) (dC (.str ("gap" : Str)))))
  (dRet (dTup (dCons (dCall PG.sp_add [] (dCons (dVar 2) (dCons (dCall PG.sp_multiply [] (dCons (dOp rIx (dVar 0) (dC (.int 1))) (dCons (dVar 3) dNil))) dNil))) (dCons (dVar 3) dNil))))
  dNext)
  (dSeq (dIfS (dTest (dOp rEq (dOp rIx (dVar 0) (dC (.int 0))) (dC (.str ("lens" : Str)))))
  (dRet (dTup (dCons (dVar 2) (dCons (dCall PG.sp_subtract [] (dCons (dVar 3) (dCons (dCall PG.sp_multiply [] (dCons (dOp rIx (dVar 0) (dC (.int 1))) (dCons (dCall PG.sp_subtract [] (dCons (dVar 2) (dCons (dOp rIx (dVar 0) (dC (.int 2))) dNil))) dNil))) dNil))) dNil))))
  dNext)
  (dSeq (dIfS (dTest (dOp rEq (dOp rIx (dVar 0) (dC (.int 0))) (dC (.str ("prism" : Str)))))
  (dRet (dTup (dCons (dVar 2) (dCons (dCall PG.sp_add [] (dCons (dVar 3) (dCons (dOp rIx (dVar 0) (dC (.int 1))) dNil))) dNil))))
  dNext)
  (dSeq (dIfS (dTest (dOp rEq (dOp rIx (dVar 0) (dC (.int 0))) (dC (.str ("afocal" : Str)))))
  (dRet (dTup (dCons (dCall PG.sp_multiply [] (dCons (dOp rIx (dVar 0) (dC (.int 1))) (dCons (dVar 2) dNil))) (dCons (dCall PG.sp_divide [] (dCons (dVar 3) (dCons (dOp rIx (dVar 0) (dC (.int 1))) dNil))) dNil))))
  dNext)
  (dSeq (dIfS (dTru (dCall PG.sp_passes_stop [] (dCons (dVar 0) (dCons (dVar 2) dNil))))
  (dRet (dVar 1))
  dNext)
  (dRet (dC .non))))))))
@[irreducible] def sp_gone_through : FSpec := spOf false 2 4 w_gone_through

def w_trace_ray : DS := (dSeq (dSet 2 (dLstO (dCons (dVar 1) dNil)))
  (dSeq (dFor (dEnum (dCons (dVar 0) dNil)) (.tp [3, 4])
  (dSeq (dSet 5 (dCall PG.sp_gone_through [] (dCons (dVar 4) (dCons (dOp rIx (dVar 2) (rU rNeg (dC (.int 1)))) dNil))))
  (dSeq (dIfS (dTest (dIsN (dVar 5)))
  (dRet (dTup (dCons (dFz 2) (dCons (dVar 3) dNil))))
  dNext)
  (dDo (dMeth mAppend (dVar 2) (dCons (dVar 5) dNil))))))
  (dRet (dTup (dCons (dFz 2) (dCons (dC .non) dNil))))))
@[irreducible] def sp_trace_ray : FSpec := spOf false 2 6 w_trace_ray

def w_exit_ray : DS := (dSeq (dAsg (dCall PG.sp_trace_ray [] (dCons (dVar 0) (dCons (dVar 1) dNil))) (.tp [2, 3]))
  (dSeq (dIfS (dTest (dIsN (dVar 3)))
  (dRet (dOp rIx (dVar 2) (rU rNeg (dC (.int 1)))))
  dNext)
  (dRet (dC .non))))
@[irreducible] def sp_exit_ray : FSpec := spOf false 2 4 w_exit_ray

def w__law_stop : DS := (dSeq (dSet 1 (dCall PG.sp__law_draw [] (dCons (dVar 0) (dCons (dC (.int 6)) dNil))))
  (dSeq (dSet 2 (dCall PG.sp__law_some [] (dCons (dVar 0) dNil)))
  (dSeq (dSet 3 (dCall PG.sp__law_add [] (dCons (dVar 2) (dCons (dCall PG.sp__law_fr [] (dCons (dCall PG.sp__law_draw [] (dCons (dVar 0) (dCons (dC (.int 7)) dNil))) (dCons (dC (.int 2)) dNil))) dNil))))
  (dSeq (dIfS (dTest (dOp rEq (dVar 1) (dC (.int 0))))
  (dRet (dTup (dCons (dC (.str ("stop" : Str))) (dCons (dC .non) (dCons (dVar 3) dNil)))))
  dNext)
  (dSeq (dIfS (dTest (dOp rEq (dVar 1) (dC (.int 1))))
  (dRet (dTup (dCons (dC (.str ("stop" : Str))) (dCons (dVar 2) (dCons (dC .non) dNil)))))
  dNext)
  (dSeq (dIfS (dAnd (dTest (dOp rEq (dVar 1) (dC (.int 2)))) (dTest (dOp rEq (dCall PG.sp__law_draw [] (dCons (dVar 0) (dCons (dC (.int 3)) dNil))) (dC (.int 0)))))
  (dRet (dTup (dCons (dC (.str ("stop" : Str))) (dCons (dC .non) (dCons (dC .non) dNil)))))
  dNext)
  (dRet (dTup (dCons (dC (.str ("stop" : Str))) (dCons (dVar 2) (dCons (dVar 3) dNil)))))))))))
@[irreducible] def sp__law_stop : FSpec := spOf false 1 4 w__law_stop

def w__law_element : DS := (dSeq (dSet 1 (dCall PG.sp__law_draw [] (dCons (dVar 0) (dCons (dC (.int 7)) dNil))))
  (dSeq (dIfS (dTest (dOp rLt (dVar 1) (dC (.int 2))))
  (dRet (dTup (dCons (dC (.str ("gap" : Str))) (dCons (dCall PG.sp__law_some [] (dCons (dVar 0) dNil)) dNil))))
  dNext)
  (dSeq (dIfS (dTest (dOp rEq (dVar 1) (dC (.int 2))))
  (dRet (dTup (dCons (dC (.str ("lens" : Str))) (dCons (dCall PG.sp__law_some [] (dCons (dVar 0) dNil)) (dCons (dOp rIx (dLst (dCons (dTup (dCons (dC (.int 0)) (dCons (dC (.int 1)) dNil))) (dCons (dCall PG.sp__law_some [] (dCons (dVar 0) dNil)) dNil))) (dCall PG.sp__law_draw [] (dCons (dVar 0) (dCons (dC (.int 2)) dNil)))) dNil)))))
  dNext)
  (dSeq (dIfS (dTest (dOp rEq (dVar 1) (dC (.int 3))))
  (dRet (dTup (dCons (dC (.str ("prism" : Str))) (dCons (dCall PG.sp__law_some [] (dCons (dVar 0) dNil)) dNil))))
  dNext)
  (dSeq (dIfS (dTest (dOp rEq (dVar 1) (dC (.int 4))))
  (dRet (dTup (dCons (dC (.str ("afocal" : Str))) (dCons (dCall PG.sp__law_other [] (dCons (dVar 0) dNil)) dNil))))
  dNext)
  (dRet (dCall PG.sp__law_stop [] (dCons (dVar 0) dNil))))))))
@[irreducible] def sp__law_element : FSpec := spOf false 1 2 w__law_element

def w__law_train : DS := (dRet (dLc false (dRange1 (dCons (dCall PG.sp__law_draw [] (dCons (dVar 0) (dCons (dOp rAddA (dVar 1) (dC (.int 1))) dNil))) dNil)) (.nm 2) dYes (dCall PG.sp__law_element [] (dCons (dVar 0) dNil)) [2]))
@[irreducible] def sp__law_train : FSpec := spOf false 2 3 w__law_train

def w__law_behind : DS := (dSeq (dIfS (dTest (dOp rEq (dOp rIx (dVar 0) (dC (.int 0))) (dC (.str ("gap" : Str)))))
  (dRet (dTup (dCons (dCall PG.sp__law_add [] (dCons (dOp rIx (dVar 1) (dC (.int 0))) (dCons (dCall PG.sp__law_mul [] (dCons (dOp rIx (dVar 0) (dC (.int 1))) (dCons (dOp rIx (dVar 1) (dC (.int 1))) dNil))) dNil))) (dCons (dOp rIx (dVar 1) (dC (.int 1))) dNil))))
  dNext)
  (dSeq (dIfS (dTest (dOp rEq (dOp rIx (dVar 0) (dC (.int 0))) (dC (.str ("lens" : Str)))))
  (dRet (dTup (dCons (dOp rIx (dVar 1) (dC (.int 0))) (dCons (dCall PG.sp__law_sub [] (dCons (dOp rIx (dVar 1) (dC (.int 1))) (dCons (dCall PG.sp__law_mul [] (dCons (dOp rIx (dVar 0) (dC (.int 1))) (dCons (dCall PG.sp__law_sub [] (dCons (dOp rIx (dVar 1) (dC (.int 0))) (dCons (dOp rIx (dVar 0) (dC (.int 2))) dNil))) dNil))) dNil))) dNil))))
  dNext)
  (dSeq (dIfS (dTest (dOp rEq (dOp rIx (dVar 0) (dC (.int 0))) (dC (.str ("prism" : Str)))))
  (dRet (dTup (dCons (dOp rIx (dVar 1) (dC (.int 0))) (dCons (dCall PG.sp__law_add [] (dCons (dOp rIx (dVar 1) (dC (.int 1))) (dCons (dOp rIx (dVar 0) (dC (.int 1))) dNil))) dNil))))
  dNext)
  (dSeq (dIfS (dTest (dOp rEq (dOp rIx (dVar 0) (dC (.int 0))) (dC (.str ("afocal" : Str)))))
  (dRet (dTup (dCons (dCall PG.sp__law_mul [] (dCons (dOp rIx (dVar 0) (dC (.int 1))) (dCons (dOp rIx (dVar 1) (dC (.int 0))) dNil))) (dCons (dCall PG.sp__law_mul [] (dCons (dOp rIx (dVar 1) (dC (.int 1))) (dCons (dCall PG.sp__law_fr [] (dCons (dOp rIx (dOp rIx (dVar 0) (dC (.int 1))) (dC (.int 1))) (dCons (dOp rIx (dOp rIx (dVar 0) (dC (.int 1))) (dC (.int 0))) dNil))) dNil))) dNil))))
  dNext)
  (dRet (dVar 1))))))
@[irreducible] def sp__law_behind : FSpec := spOf false 2 2 w__law_behind

def w__law_blocks : DS := (dSeq (dIfS (dTest (dOp rNe (dOp rIx (dVar 0) (dC (.int 0))) (dC (.str ("stop" : Str)))))
  (dRet (dC (.bl false)))
  dNext)
  (dSeq (dIfS (dAnd (dTest (dNotN (dOp rIx (dVar 0) (dC (.int 1))))) (dTru (dCall PG.sp__law_less [] (dCons (dOp rIx (dVar 1) (dC (.int 0))) (dCons (dOp rIx (dVar 0) (dC (.int 1))) dNil)))))
  (dRet (dC (.bl true)))
  dNext)
  (dRet (dAndV (dNotN (dOp rIx (dVar 0) (dC (.int 2)))) (dCall PG.sp__law_less [] (dCons (dOp rIx (dVar 0) (dC (.int 2))) (dCons (dOp rIx (dVar 1) (dC (.int 0))) dNil)))))))
@[irreducible] def sp__law_blocks : FSpec := spOf false 2 2 w__law_blocks

def w__law_go : DS := (dSeq (dSet 2 (dLstO (dCons (dVar 1) dNil)))
  (dSeq (dFor (dRange1 (dCons (dBi bLen (dCons (dVar 0) dNil)) dNil)) (.nm 3)
  (dSeq (dIfS (dTru (dCall PG.sp__law_blocks [] (dCons (dOp rIx (dVar 0) (dVar 3)) (dCons (dOp rIx (dVar 2) (rU rNeg (dC (.int 1)))) dNil))))
  (dRet (dTup (dCons (dFz 2) (dCons (dVar 3) dNil))))
  dNext)
  (dDo (dMeth mAppend (dVar 2) (dCons (dCall PG.sp__law_behind [] (dCons (dOp rIx (dVar 0) (dVar 3)) (dCons (dOp rIx (dVar 2) (rU rNeg (dC (.int 1)))) dNil))) dNil)))))
  (dRet (dTup (dCons (dFz 2) (dCons (dC .non) dNil))))))
@[irreducible] def sp__law_go : FSpec := spOf false 2 4 w__law_go

def w__law_ray : DS := (dRet (dTup (dCons (dCall PG.sp__law_some [] (dCons (dVar 0) dNil)) (dCons (dCall PG.sp__law_some [] (dCons (dVar 0) dNil)) dNil))))
@[irreducible] def sp__law_ray : FSpec := spOf false 1 1 w__law_ray

def w_law_3 : DS := (dSeq (dSet 1 (dLstO (dCons (dCall PG.sp__law_digits [] (dCons (dVar 0) (dCons (dC (.int 0)) (dCons (dC (.int 63)) dNil)))) (dCons (dC (.int 0)) dNil))))
  (dSeq (dFor (dRange1 (dCons (dC (.int 2)) dNil)) (.nm 2)
  (dSeq (dSet 3 (dCall PG.sp__law_train [] (dCons (dVar 1) (dCons (dC (.int 8)) dNil))))
  (dSeq (dSet 4 (dCall PG.sp__law_ray [] (dCons (dVar 1) dNil)))
  (dSeq (dAsg (dCall PG.sp__law_go [] (dCons (dVar 3) (dCons (dVar 4) dNil))) (.tp [5, 6]))
  (dSeq (dSet 8 (dLc false (dAny (dVar 3)) (.nm 7) dYes (dVar 7) [7]))
  (dSeq (dSet 9 (dCall PG.sp_trace_ray [] (dCons (dVar 3) (dCons (dVar 4) dNil))))
  (dSeq (dIfS (dOr (dNot (dTru (dIsi .tuple (dVar 9)))) (dOr (dTest (dOp rNe (dVar 9) (dTup (dCons (dVar 5) (dCons (dVar 6) dNil))))) (dOr (dTru (dIsi .bool (dOp rIx (dVar 9) (dC (.int 1))))) (dTest (dOp rNe (dVar 3) (dVar 8))))))
  (dRet (dC (.bl false)))
  dNext)
  (dSeq (dFor (dAny (dOp rIx (dVar 9) (dC (.int 0)))) (.nm 10)
  (dIfS (dOr (dNot (dTru (dCall PG.sp__law_is_fr [] (dCons (dOp rIx (dVar 10) (dC (.int 0))) dNil)))) (dNot (dTru (dCall PG.sp__law_is_fr [] (dCons (dOp rIx (dVar 10) (dC (.int 1))) dNil)))))
  (dRet (dC (.bl false)))
  dNext))
  (dSeq (dSet 11 (dOp rIx (dVar 5) (rU rNeg (dC (.int 1)))))
  (dSeq (dIfS (dTest (dNotN (dVar 6)))
  (dSet 11 (dC .non))
  dNext)
  (dSeq (dIfS (dTest (dOp rNe (dCall PG.sp_exit_ray [] (dCons (dVar 3) (dCons (dVar 4) dNil))) (dVar 11)))
  (dRet (dC (.bl false)))
  dNext)
  (dSeq (dSet 7 (dCall PG.sp__law_element [] (dCons (dVar 1) dNil)))
  (dSeq (dSet 12 (dCall PG.sp__law_behind [] (dCons (dVar 7) (dCons (dVar 4) dNil))))
  (dSeq (dIfS (dTru (dCall PG.sp__law_blocks [] (dCons (dVar 7) (dCons (dVar 4) dNil))))
  (dSet 12 (dC .non))
  dNext)
  (dSeq (dIfS (dTest (dOp rNe (dCall PG.sp_gone_through [] (dCons (dVar 7) (dCons (dVar 4) dNil))) (dVar 12)))
  (dRet (dC (.bl false)))
  dNext)
  (dSeq (dSet 13 (dCall PG.sp__law_stop [] (dCons (dVar 1) dNil)))
  (dIfS (dTest (dOp rNe (dCall PG.sp_passes_stop [] (dCons (dVar 13) (dCons (dOp rIx (dVar 4) (dC (.int 0))) dNil))) (dNotV (dCall PG.sp__law_blocks [] (dCons (dVar 13) (dCons (dVar 4) dNil))))))
  (dRet (dC (.bl false)))
  dNext)))))))))))))))))
  (dRet (dC (.bl true)))))
@[irreducible] def sp_law_3 : FSpec := spOf false 1 14 w_law_3

def v_ONE : Dt := .tup [.int 1, .int 1]

def v_IDENTITY : Dt := .tup [.tup [.int 1, .int 1], .tup [.int 0, .int 1], .tup [.int 0, .int 1], .tup [.int 1, .int 1], .tup [.int 0, .int 1], .tup [.int 0, .int 1]]

def w_element_map : DS := (dSeq (dIfS (dTest (dOp rEq (dOp rIx (dVar 0) (dC (.int 0))) (dC (.str ("gap" : Str)))))
  (dRet (dTup (dCons (dC PG.v_ONE) (dCons (dOp rIx (dVar 0) (dC (.int 1))) (dCons (dC PG.v_ZERO) (dCons (dC PG.v_ONE) (dCons (dC PG.v_ZERO) (dCons (dC PG.v_ZERO) dNil))))))))
  dNext)
  (dSeq (dIfS (dTest (dOp rEq (dOp rIx (dVar 0) (dC (.int 0))) (dC (.str ("lens" : Str)))))
  (dRet (dTup (dCons (dC PG.v_ONE) (dCons (dC PG.v_ZERO) (dCons (dCall PG.sp_negative [] (dCons (dOp rIx (dVar 0) (dC (.int 1))) dNil)) (dCons (dC PG.v_ONE) (dCons (dC PG.v_ZERO) (dCons (dCall PG.sp_multiply [] (dCons (dOp rIx (dVar 0) (dC (.int 1))) (dCons (dOp rIx (dVar 0) (dC (.int 2))) dNil))) dNil))))))))
  dNext)
  (dSeq (dIfS (dTest (dOp rEq (dOp rIx (dVar 0) (dC (.int 0))) (dC (.str ("prism" : Str)))))
  (dRet (dTup (dCons (dC PG.v_ONE) (dCons (dC PG.v_ZERO) (dCons (dC PG.v_ZERO) (dCons (dC PG.v_ONE) (dCons (dC PG.v_ZERO) (dCons (dOp rIx (dVar 0) (dC (.int 1))) dNil))))))))
  dNext)
  (dSeq (dIfS (dTest (dOp rEq (dOp rIx (dVar 0) (dC (.int 0))) (dC (.str ("afocal" : Str)))))
  (dRet (dTup (dCons (dOp rIx (dVar 0) (dC (.int 1))) (dCons (dC PG.v_ZERO) (dCons (dC PG.v_ZERO) (dCons (dCall PG.sp_divide [] (dCons (dC PG.v_ONE) (dCons (dOp rIx (dVar 0) (dC (.int 1))) dNil))) (dCons (dC PG.v_ZERO) (dCons (dC PG.v_ZERO) dNil))))))))
  dNext)
  (dRet (dC PG.v_IDENTITY))))))
@[irreducible] def sp_element_map : FSpec := spOf false 1 1 w_element_map

def w_weighted : DS := (dRet (dCall PG.sp_add [] (dCons (dCall PG.sp_multiply [] (dCons (dVar 0) (dCons (dVar 1) dNil))) (dCons (dCall PG.sp_multiply [] (dCons (dVar 2) (dCons (dVar 3) dNil))) dNil))))
@[irreducible] def sp_weighted : FSpec := spOf false 4 4 w_weighted

def w_apply_map : DS := (dSeq (dAsg (dVar 0) (.tp [2, 3, 4, 5, 6, 7]))
  (dRet (dTup (dCons (dCall PG.sp_add [] (dCons (dCall PG.sp_weighted [] (dCons (dVar 2) (dCons (dOp rIx (dVar 1) (dC (.int 0))) (dCons (dVar 3) (dCons (dOp rIx (dVar 1) (dC (.int 1))) dNil))))) (dCons (dVar 6) dNil))) (dCons (dCall PG.sp_add [] (dCons (dCall PG.sp_weighted [] (dCons (dVar 4) (dCons (dOp rIx (dVar 1) (dC (.int 0))) (dCons (dVar 5) (dCons (dOp rIx (dVar 1) (dC (.int 1))) dNil))))) (dCons (dVar 7) dNil))) dNil)))))
@[irreducible] def sp_apply_map : FSpec := spOf false 2 8 w_apply_map

def w_compose_maps : DS := (dSeq (dAsg (dVar 0) (.tp [2, 3, 4, 5, 6, 7]))
  (dSeq (dAsg (dVar 1) (.tp [8, 9, 10, 11, 12, 13]))
  (dSeq (dSet 14 (dTup (dCons (dCall PG.sp_weighted [] (dCons (dVar 8) (dCons (dVar 2) (dCons (dVar 9) (dCons (dVar 4) dNil))))) (dCons (dCall PG.sp_weighted [] (dCons (dVar 8) (dCons (dVar 3) (dCons (dVar 9) (dCons (dVar 5) dNil))))) dNil))))
  (dSeq (dSet 15 (dTup (dCons (dCall PG.sp_weighted [] (dCons (dVar 10) (dCons (dVar 2) (dCons (dVar 11) (dCons (dVar 4) dNil))))) (dCons (dCall PG.sp_weighted [] (dCons (dVar 10) (dCons (dVar 3) (dCons (dVar 11) (dCons (dVar 5) dNil))))) dNil))))
  (dSeq (dSet 16 (dTup (dCons (dCall PG.sp_add [] (dCons (dCall PG.sp_weighted [] (dCons (dVar 8) (dCons (dVar 6) (dCons (dVar 9) (dCons (dVar 7) dNil))))) (dCons (dVar 12) dNil))) (dCons (dCall PG.sp_add [] (dCons (dCall PG.sp_weighted [] (dCons (dVar 10) (dCons (dVar 6) (dCons (dVar 11) (dCons (dVar 7) dNil))))) (dCons (dVar 13) dNil))) dNil))))
  (dRet (dOp rAddA (dOp rAddA (dVar 14) (dVar 15)) (dVar 16))))))))
@[irreducible] def sp_compose_maps : FSpec := spOf false 2 17 w_compose_maps

def w_invert_map : DS := (dSeq (dAsg (dVar 0) (.tp [1, 2, 3, 4, 5, 6]))
  (dSeq (dSet 7 (dTup (dCons (dCall PG.sp_subtract [] (dCons (dCall PG.sp_multiply [] (dCons (dVar 2) (dCons (dVar 6) dNil))) (dCons (dCall PG.sp_multiply [] (dCons (dVar 4) (dCons (dVar 5) dNil))) dNil))) (dCons (dCall PG.sp_subtract [] (dCons (dCall PG.sp_multiply [] (dCons (dVar 3) (dCons (dVar 5) dNil))) (dCons (dCall PG.sp_multiply [] (dCons (dVar 1) (dCons (dVar 6) dNil))) dNil))) dNil))))
  (dRet (dOp rAddA (dTup (dCons (dVar 4) (dCons (dCall PG.sp_negative [] (dCons (dVar 2) dNil)) (dCons (dCall PG.sp_negative [] (dCons (dVar 3) dNil)) (dCons (dVar 1) dNil))))) (dVar 7)))))
@[irreducible] def sp_invert_map : FSpec := spOf false 1 8 w_invert_map

def w_ray_transfer : DS := (dSeq (dSet 1 (dC PG.v_IDENTITY))
  (dSeq (dFor (dAny (dVar 0)) (.nm 2)
  (dSet 1 (dCall PG.sp_compose_maps [] (dCons (dVar 1) (dCons (dCall PG.sp_element_map [] (dCons (dVar 2) dNil)) dNil)))))
  (dRet (dVar 1))))
@[irreducible] def sp_ray_transfer : FSpec := spOf false 1 3 w_ray_transfer

def w__law_open : DS := (dSeq (dFor (dAny (dVar 0)) (.nm 2)
  (dSet 1 (dCall PG.sp__law_behind [] (dCons (dVar 2) (dCons (dVar 1) dNil)))))
  (dRet (dVar 1)))
@[irreducible] def sp__law_open : FSpec := spOf false 2 3 w__law_open

def w_law_4 : DS := (dSeq (dSet 1 (dLstO (dCons (dCall PG.sp__law_digits [] (dCons (dVar 0) (dCons (dC (.int 0)) (dCons (dC (.int 63)) dNil)))) (dCons (dC (.int 0)) dNil))))
  (dSeq (dSet 2 (dCall PG.sp__law_train [] (dCons (dVar 1) (dCons (dC (.int 6)) dNil))))
  (dSeq (dSet 3 (dCall PG.sp__law_train [] (dCons (dVar 1) (dCons (dC (.int 6)) dNil))))
  (dSeq (dSet 4 (dCall PG.sp_ray_transfer [] (dCons (dVar 2) dNil)))
  (dSeq (dSet 5 (dCall PG.sp_ray_transfer [] (dCons (dVar 3) dNil)))
  (dSeq (dIfS (dOr (dNot (dTru (dIsi .tuple (dVar 4)))) (dOr (dTest (dOp rNe (dBi bLen (dCons (dVar 4) dNil)) (dC (.int 6)))) (dTest (dOp rGt (dBi bLen (dCons (dLc false (dAny (dVar 4)) (.nm 12) (dNot (dTru (dCall PG.sp__law_is_fr [] (dCons (dVar 12) dNil)))) (dVar 12) [12]) dNil)) (dC (.int 0))))))
  (dRet (dC (.bl false)))
  dNext)
  (dSeq (dIfS (dTest (dOp rNe (dCall PG.sp__law_sub [] (dCons (dCall PG.sp__law_mul [] (dCons (dOp rIx (dVar 4) (dC (.int 0))) (dCons (dOp rIx (dVar 4) (dC (.int 3))) dNil))) (dCons (dCall PG.sp__law_mul [] (dCons (dOp rIx (dVar 4) (dC (.int 1))) (dCons (dOp rIx (dVar 4) (dC (.int 2))) dNil))) dNil))) (dTup (dCons (dC (.int 1)) (dCons (dC (.int 1)) dNil)))))
  (dRet (dC (.bl false)))
  dNext)
  (dSeq (dSet 6 (dCall PG.sp_compose_maps [] (dCons (dVar 4) (dCons (dVar 5) dNil))))
  (dSeq (dSet 7 (dCall PG.sp_invert_map [] (dCons (dVar 4) dNil)))
  (dSeq (dIfS (dOr (dTest (dOp rNe (dVar 6) (dCall PG.sp_ray_transfer [] (dCons (dOp rAddA (dVar 2) (dVar 3)) dNil)))) (dOr (dTest (dOp rNe (dCall PG.sp_compose_maps [] (dCons (dVar 4) (dCons (dVar 7) dNil))) (dC PG.v_IDENTITY))) (dTest (dOp rNe (dCall PG.sp_compose_maps [] (dCons (dVar 7) (dCons (dVar 4) dNil))) (dC PG.v_IDENTITY)))))
  (dRet (dC (.bl false)))
  dNext)
  (dSeq (dFor (dRange1 (dCons (dC (.int 3)) dNil)) (.nm 8)
  (dSeq (dSet 9 (dCall PG.sp__law_ray [] (dCons (dVar 1) dNil)))
  (dSeq (dIfS (dOr (dTest (dOp rNe (dCall PG.sp_apply_map [] (dCons (dVar 4) (dCons (dVar 9) dNil))) (dCall PG.sp__law_open [] (dCons (dVar 2) (dCons (dVar 9) dNil))))) (dTest (dOp rNe (dCall PG.sp_apply_map [] (dCons (dVar 7) (dCons (dCall PG.sp_apply_map [] (dCons (dVar 4) (dCons (dVar 9) dNil))) dNil))) (dVar 9))))
  (dRet (dC (.bl false)))
  dNext)
  (dSeq (dSet 10 (dCall PG.sp_exit_ray [] (dCons (dVar 2) (dCons (dVar 9) dNil))))
  (dSeq (dIfS (dAnd (dTest (dNotN (dVar 10))) (dTest (dOp rNe (dVar 10) (dCall PG.sp_apply_map [] (dCons (dVar 4) (dCons (dVar 9) dNil))))))
  (dRet (dC (.bl false)))
  dNext)
  (dIfS (dTest (dOp rNe (dCall PG.sp_apply_map [] (dCons (dC PG.v_IDENTITY) (dCons (dVar 9) dNil))) (dVar 9)))
  (dRet (dC (.bl false)))
  dNext))))))
  (dSeq (dFor (dAny (dVar 2)) (.nm 11)
  (dIfS (dTest (dOp rNe (dCall PG.sp_element_map [] (dCons (dVar 11) dNil)) (dCall PG.sp_ray_transfer [] (dCons (dLst (dCons (dVar 11) dNil)) dNil))))
  (dRet (dC (.bl false)))
  dNext))
  (dRet (dC (.bl true)))))))))))))))
@[irreducible] def sp_law_4 : FSpec := spOf false 1 13 w_law_4

def w_image_distance : DS := (dSeq (dAsg (dVar 0) (.tp [2, 3, 4, 5, 6, 7]))
  (dSeq (dSet 8 (dCall PG.sp_add [] (dCons (dCall PG.sp_multiply [] (dCons (dVar 4) (dCons (dVar 1) dNil))) (dCons (dVar 5) dNil))))
  (dSeq (dIfS (dTest (dOp rEq (dVar 8) (dC PG.v_ZERO)))
  (dRet (dC .non))
  dNext)
  (dRet (dCall PG.sp_negative [] (dCons (dCall PG.sp_divide [] (dCons (dCall PG.sp_add [] (dCons (dCall PG.sp_multiply [] (dCons (dVar 2) (dCons (dVar 1) dNil))) (dCons (dVar 3) dNil))) (dCons (dVar 8) dNil))) dNil))))))
@[irreducible] def sp_image_distance : FSpec := spOf false 2 9 w_image_distance

def w_magnification : DS := (dSeq (dAsg (dVar 0) (.tp [2, 3, 4, 5, 6, 7]))
  (dSeq (dSet 8 (dCall PG.sp_add [] (dCons (dCall PG.sp_multiply [] (dCons (dVar 4) (dCons (dVar 1) dNil))) (dCons (dVar 5) dNil))))
  (dSeq (dIfS (dTest (dOp rEq (dVar 8) (dC PG.v_ZERO)))
  (dRet (dC .non))
  dNext)
  (dRet (dCall PG.sp_divide [] (dCons (dC PG.v_ONE) (dCons (dVar 8) dNil)))))))
@[irreducible] def sp_magnification : FSpec := spOf false 2 9 w_magnification

def w__law_at : DS := (dRet (dCall PG.sp__law_add [] (dCons (dOp rIx (dVar 0) (dC (.int 0))) (dCons (dCall PG.sp__law_mul [] (dCons (dVar 1) (dCons (dOp rIx (dVar 0) (dC (.int 1))) dNil))) dNil))))
@[irreducible] def sp__law_at : FSpec := spOf false 2 2 w__law_at

def w_law_5 : DS := (dSeq (dSet 1 (dLstO (dCons (dCall PG.sp__law_digits [] (dCons (dVar 0) (dCons (dC (.int 0)) (dCons (dC (.int 63)) dNil)))) (dCons (dC (.int 0)) dNil))))
  (dSeq (dSet 2 (dLc false (dAny (dCall PG.sp__law_train [] (dCons (dVar 1) (dCons (dC (.int 5)) dNil)))) (.nm 13) (dTest (dOp rNe (dOp rIx (dVar 13) (dC (.int 0))) (dC (.str ("stop" : Str))))) (dVar 13) [13]))
  (dSeq (dSet 3 (dCall PG.sp_ray_transfer [] (dCons (dVar 2) dNil)))
  (dSeq (dSet 4 (dCall PG.sp__law_some [] (dCons (dVar 1) dNil)))
  (dSeq (dIfS (dAnd (dTest (dOp rEq (dCall PG.sp__law_draw [] (dCons (dVar 1) (dCons (dC (.int 3)) dNil))) (dC (.int 0)))) (dTest (dOp rNe (dOp rIx (dOp rIx (dVar 3) (dC (.int 2))) (dC (.int 0))) (dC (.int 0)))))
  (dSet 4 (dCall PG.sp__law_mul [] (dCons (dCall PG.sp__law_sub [] (dCons (dTup (dCons (dC (.int 0)) (dCons (dC (.int 1)) dNil))) (dCons (dOp rIx (dVar 3) (dC (.int 3))) dNil))) (dCons (dCall PG.sp__law_fr [] (dCons (dOp rIx (dOp rIx (dVar 3) (dC (.int 2))) (dC (.int 1))) (dCons (dOp rIx (dOp rIx (dVar 3) (dC (.int 2))) (dC (.int 0))) dNil))) dNil))))
  dNext)
  (dSeq (dSet 5 (dCall PG.sp__law_some [] (dCons (dVar 1) dNil)))
  (dSeq (dSet 6 (dCall PG.sp__law_some [] (dCons (dVar 1) dNil)))
  (dSeq (dSet 7 (dLstO dNil))
  (dSeq (dFor (dAny (dLst (dCons (dTup (dCons (dC (.int 0)) (dCons (dC (.int 1)) dNil))) (dCons (dTup (dCons (dC (.int 1)) (dCons (dC (.int 1)) dNil))) (dCons (dTup (dCons (rU rNeg (dC (.int 2))) (dCons (dC (.int 3)) dNil))) dNil))))) (.nm 8)
  (dDo (dMeth mAppend (dVar 7) (dCons (dCall PG.sp_apply_map [] (dCons (dVar 3) (dCons (dTup (dCons (dCall PG.sp__law_add [] (dCons (dVar 5) (dCons (dCall PG.sp__law_mul [] (dCons (dVar 4) (dCons (dVar 8) dNil))) dNil))) (dCons (dVar 8) dNil))) dNil))) dNil))))
  (dSeq (dSet 9 (dCall PG.sp_apply_map [] (dCons (dVar 3) (dCons (dTup (dCons (dCall PG.sp__law_add [] (dCons (dVar 6) (dCons (dVar 4) dNil))) (dCons (dTup (dCons (dC (.int 1)) (dCons (dC (.int 1)) dNil))) dNil))) dNil))))
  (dSeq (dSet 10 (dCall PG.sp_image_distance [] (dCons (dVar 3) (dCons (dVar 4) dNil))))
  (dSeq (dSet 11 (dCall PG.sp_magnification [] (dCons (dVar 3) (dCons (dVar 4) dNil))))
  (dSeq (dSet 12 (dCall PG.sp__law_add [] (dCons (dCall PG.sp__law_mul [] (dCons (dOp rIx (dVar 3) (dC (.int 2))) (dCons (dVar 4) dNil))) (dCons (dOp rIx (dVar 3) (dC (.int 3))) dNil))))
  (dSeq (dIfS (dTest (dOp rEq (dOp rIx (dVar 12) (dC (.int 0))) (dC (.int 0))))
  (dSeq (dIfS (dOr (dTest (dNotN (dVar 10))) (dTest (dNotN (dVar 11))))
  (dRet (dC (.bl false)))
  dNext)
  (dRet (dAndV (dOp rEq (dOp rIx (dOp rIx (dVar 7) (dC (.int 0))) (dC (.int 1))) (dOp rIx (dOp rIx (dVar 7) (dC (.int 1))) (dC (.int 1)))) (dOp rEq (dOp rIx (dOp rIx (dVar 7) (dC (.int 1))) (dC (.int 1))) (dOp rIx (dOp rIx (dVar 7) (dC (.int 2))) (dC (.int 1)))))))
  dNext)
  (dSeq (dIfS (dOr (dNot (dTru (dCall PG.sp__law_is_fr [] (dCons (dVar 10) dNil)))) (dNot (dTru (dCall PG.sp__law_is_fr [] (dCons (dVar 11) dNil)))))
  (dRet (dC (.bl false)))
  dNext)
  (dSeq (dIfS (dOr (dTest (dOp rNe (dCall PG.sp__law_at [] (dCons (dOp rIx (dVar 7) (dC (.int 0))) (dCons (dVar 10) dNil))) (dCall PG.sp__law_at [] (dCons (dOp rIx (dVar 7) (dC (.int 1))) (dCons (dVar 10) dNil))))) (dTest (dOp rNe (dCall PG.sp__law_at [] (dCons (dOp rIx (dVar 7) (dC (.int 1))) (dCons (dVar 10) dNil))) (dCall PG.sp__law_at [] (dCons (dOp rIx (dVar 7) (dC (.int 2))) (dCons (dVar 10) dNil))))))
  (dRet (dC (.bl false)))
  dNext)
  (dSeq (dIfS (dTest (dOp rEq (dCall PG.sp__law_at [] (dCons (dOp rIx (dVar 7) (dC (.int 0))) (dCons (dCall PG.sp__law_add [] (dCons (dVar 10) (dCons (dTup (dCons (dC (.int 1)) (dCons (dC (.int 7)) dNil))) dNil))) dNil))) (dCall PG.sp__law_at [] (dCons (dOp rIx (dVar 7) (dC (.int 1))) (dCons (dCall PG.sp__law_add [] (dCons (dVar 10) (dCons (dTup (dCons (dC (.int 1)) (dCons (dC (.int 7)) dNil))) dNil))) dNil)))))
  (dRet (dC (.bl false)))
  dNext)
  (dRet (dOp rEq (dCall PG.sp__law_sub [] (dCons (dCall PG.sp__law_at [] (dCons (dVar 9) (dCons (dVar 10) dNil))) (dCons (dCall PG.sp__law_at [] (dCons (dOp rIx (dVar 7) (dC (.int 1))) (dCons (dVar 10) dNil))) dNil))) (dCall PG.sp__law_mul [] (dCons (dVar 11) (dCons (dCall PG.sp__law_sub [] (dCons (dVar 6) (dCons (dVar 5) dNil))) dNil))))))))))))))))))))))
@[irreducible] def sp_law_5 : FSpec := spOf false 1 14 w_law_5

def w__law_row : DS := (dSeq (dSet 3 (dLstO dNil))
  (dSeq (dIfS (dTest (dOp rLt (dVar 0) (dC (.int 0))))
  (dSet 0 (dOp rSub (dC (.int 1)) (dOp rMul (dC (.int 2)) (dVar 0))))
  dNext)
  (dSeq (dIfS (dTest (dOp rGe (dVar 0) (dOp rPow (dC (.int 10)) (dC (.int 18)))))
  (dSeq (dFor (dRange1 (dCons (dC (.int 60)) dNil)) (.nm 4)
  (dIfS (dAnd (dTest (dOp rGt (dVar 0) (dC (.int 0)))) (dTest (dOp rLt (dBi bLen (dCons (dVar 3) dNil)) (dVar 2))))
  (dSeq (dDo (dMeth mAppend (dVar 3) (dCons (dOp rMod (dBi bInt (dCons (dVar 0) dNil)) (dC (.int 1000))) dNil)))
  (dSet 0 (dOp rDiv (dVar 0) (dC (.int 1000)))))
  dNext))
  (dRet (dVar 3)))
  dNext)
  (dSeq (dSet 5 (dOp rMod (dBi bInt (dCons (dOp rAddA (dOp rAddA (dOp rMul (dVar 0) (dC (.int 48271))) (dOp rMul (dVar 1) (dC (.int 69621)))) (dC (.int 11))) dNil)) (dC (.int 2147483647))))
  (dSeq (dFor (dRange1 (dCons (dVar 2) dNil)) (.nm 4)
  (dSeq (dSet 5 (dOp rMod (dBi bInt (dCons (dOp rAddA (dOp rAddA (dOp rMul (dVar 5) (dC (.int 16807))) (dOp rMul (dC (.int 7)) (dVar 4))) (dC (.int 1))) dNil)) (dC (.int 2147483647))))
  (dDo (dMeth mAppend (dVar 3) (dCons (dOp rMod (dBi bInt (dCons (dOp rDiv (dVar 5) (dC (.int 997))) dNil)) (dC (.int 1000))) dNil)))))
  (dRet (dVar 3)))))))
@[irreducible] def sp__law_row : FSpec := spOf false 3 6 w__law_row

def w__law_box : DS := (dSeq (dSet 3 (dLst dNil))
  (dSeq (dFor (dRange2 (dCons (dVar 1) (dCons (dVar 2) dNil))) (.nm 4)
  (dSet 3 (dOp rAddA (dVar 3) (dCall PG.sp__law_row [] (dCons (dCall PG.sp__law_cell [] (dCons (dVar 0) (dCons (dVar 4) dNil))) (dCons (dVar 4) (dCons (dC (.int 12)) dNil)))))))
  (dRet (dLstO (dCons (dVar 3) (dCons (dC (.int 0)) dNil))))))
@[irreducible] def sp__law_box : FSpec := spOf true 3 5 w__law_box

def w__law_draw_2 : DS := (dSeq (dSet 2 (dOp rIx (dVar 0) (dC (.int 1))))
  (dSeq (dSetIx (dOp rAddA (dVar 2) (dC (.int 1))) (dVar 0) (dC (.int 1)))
  (dSeq (dIfS (dTest (dOp rLt (dVar 2) (dBi bLen (dCons (dOp rIx (dVar 0) (dC (.int 0))) dNil))))
  (dRet (dOp rMod (dBi bInt (dCons (dOp rIx (dOp rIx (dVar 0) (dC (.int 0))) (dVar 2)) dNil)) (dVar 1)))
  dNext)
  (dRet (dOp rMod (dBi bInt (dCons (dOp rAddA (dOp rMul (dVar 2) (dC (.int 7))) (dC (.int 3))) dNil)) (dVar 1))))))
@[irreducible] def sp__law_draw_2 : FSpec := spOf false 2 3 w__law_draw_2

def w__law_same : DS := (dRet (dOp rEqT (dBi bRepr (dCons (dVar 0) dNil)) (dBi bRepr (dCons (dVar 1) dNil))))
@[irreducible] def sp__law_same : FSpec := spOf false 2 2 w__law_same

def w__law_frac : DS := (dSeq (dSet 2 (dBi bAbs (dCons (dVar 0) dNil)))
  (dSeq (dSet 3 (dBi bAbs (dCons (dVar 1) dNil)))
  (dSeq (dWhile (dTest (dOp rGt (dVar 3) (dC (.int 0))))
  (dPar 2 3 (dCons (dVar 3) (dCons (dOp rMod (dBi bInt (dCons (dVar 2) dNil)) (dBi bInt (dCons (dVar 3) dNil))) dNil))))
  (dSeq (dIfS (dTest (dOp rLt (dVar 1) (dC (.int 0))))
  (dSet 2 (rU rNeg (dVar 2)))
  dNext)
  (dRet (dTup (dCons (dOp rDiv (dVar 0) (dVar 2)) (dCons (dOp rDiv (dVar 1) (dVar 2)) dNil))))))))
@[irreducible] def sp__law_frac : FSpec := spOf false 2 4 w__law_frac

def w__law_add_2 : DS := (dRet (dCall PG.sp__law_frac [] (dCons (dOp rAddA (dOp rMul (dOp rIx (dVar 0) (dC (.int 0))) (dOp rIx (dVar 1) (dC (.int 1)))) (dOp rMul (dOp rIx (dVar 1) (dC (.int 0))) (dOp rIx (dVar 0) (dC (.int 1))))) (dCons (dOp rMul (dOp rIx (dVar 0) (dC (.int 1))) (dOp rIx (dVar 1) (dC (.int 1)))) dNil))))
@[irreducible] def sp__law_add_2 : FSpec := spOf false 2 2 w__law_add_2

def w__law_neg : DS := (dRet (dTup (dCons (rU rNeg (dOp rIx (dVar 0) (dC (.int 0)))) (dCons (dOp rIx (dVar 0) (dC (.int 1))) dNil))))
@[irreducible] def sp__law_neg : FSpec := spOf false 1 1 w__law_neg

def w__law_sub_2 : DS := (dRet (dCall PG.sp__law_add_2 [] (dCons (dVar 0) (dCons (dCall PG.sp__law_neg [] (dCons (dVar 1) dNil)) dNil))))
@[irreducible] def sp__law_sub_2 : FSpec := spOf false 2 2 w__law_sub_2

def w__law_mul_2 : DS := (dRet (dCall PG.sp__law_frac [] (dCons (dOp rMul (dOp rIx (dVar 0) (dC (.int 0))) (dOp rIx (dVar 1) (dC (.int 0)))) (dCons (dOp rMul (dOp rIx (dVar 0) (dC (.int 1))) (dOp rIx (dVar 1) (dC (.int 1)))) dNil))))
@[irreducible] def sp__law_mul_2 : FSpec := spOf false 2 2 w__law_mul_2

def w__law_div : DS := (dRet (dCall PG.sp__law_frac [] (dCons (dOp rMul (dOp rIx (dVar 0) (dC (.int 0))) (dOp rIx (dVar 1) (dC (.int 1)))) (dCons (dOp rMul (dOp rIx (dVar 0) (dC (.int 1))) (dOp rIx (dVar 1) (dC (.int 0)))) dNil))))
@[irreducible] def sp__law_div : FSpec := spOf false 2 2 w__law_div

def w__law_fraction : DS := (dRet (dCall PG.sp__law_frac [] (dCons (dOp rSub (dCall PG.sp__law_draw_2 [] (dCons (dVar 0) (dCons (dC (.int 9)) dNil))) (dC (.int 4))) (dCons (dOp rIx (dLst (dCons (dC (.int 1)) (dCons (dC (.int 1)) (dCons (dC (.int 2)) (dCons (dC (.int 3)) dNil))))) (dCall PG.sp__law_draw_2 [] (dCons (dVar 0) (dCons (dC (.int 4)) dNil)))) dNil))))
@[irreducible] def sp__law_fraction : FSpec := spOf false 1 1 w__law_fraction

def w_cross : DS := (dRet (dOp rSub (dOp rMul (dOp rIx (dVar 0) (dC (.int 0))) (dOp rIx (dVar 1) (dC (.int 1)))) (dOp rMul (dOp rIx (dVar 0) (dC (.int 1))) (dOp rIx (dVar 1) (dC (.int 0))))))
@[irreducible] def sp_cross : FSpec := spOf false 2 2 w_cross

def w_dot : DS := (dRet (dOp rAddA (dOp rMul (dOp rIx (dVar 0) (dC (.int 0))) (dOp rIx (dVar 1) (dC (.int 0)))) (dOp rMul (dOp rIx (dVar 0) (dC (.int 1))) (dOp rIx (dVar 1) (dC (.int 1))))))
@[irreducible] def sp_dot : FSpec := spOf false 2 2 w_dot

def w_opposite : DS := (dRet (dTup (dCons (rU rNeg (dOp rIx (dVar 0) (dC (.int 0)))) (dCons (rU rNeg (dOp rIx (dVar 0) (dC (.int 1)))) (dCons (rU rNeg (dOp rIx (dVar 0) (dC (.int 2)))) dNil)))))
@[irreducible] def sp_opposite : FSpec := spOf false 1 1 w_opposite

def w_reach : DS := (dRet (dCall PG.sp_fraction [] (dCons (dOp rIx (dVar 0) (dC (.int 2))) (dCons (dOp rAddA (dBi bAbs (dCons (dOp rIx (dVar 0) (dC (.int 0))) dNil)) (dBi bAbs (dCons (dOp rIx (dVar 0) (dC (.int 1))) dNil))) dNil))))
@[irreducible] def sp_reach : FSpec := spOf false 1 1 w_reach

def w_in_first_half : DS := (dRet (dOrV (dOp rGt (dOp rIx (dVar 0) (dC (.int 1))) (dC (.int 0))) (dAndV (dOp rEq (dOp rIx (dVar 0) (dC (.int 1))) (dC (.int 0))) (dOp rGt (dOp rIx (dVar 0) (dC (.int 0))) (dC (.int 0))))))
@[irreducible] def sp_in_first_half : FSpec := spOf false 1 1 w_in_first_half

def w_comes_before : DS := (dSeq (dIfS (dTest (dOp rNe (dCall PG.sp_in_first_half [] (dCons (dVar 0) dNil)) (dCall PG.sp_in_first_half [] (dCons (dVar 1) dNil))))
  (dRet (dCall PG.sp_in_first_half [] (dCons (dVar 0) dNil)))
  dNext)
  (dSeq (dSet 2 (dCall PG.sp_cross [] (dCons (dVar 0) (dCons (dVar 1) dNil))))
  (dSeq (dIfS (dTest (dOp rNe (dVar 2) (dC (.int 0))))
  (dRet (dOp rGt (dVar 2) (dC (.int 0))))
  dNext)
  (dRet (dOp rLt (dCall PG.sp_compare [] (dCons (dCall PG.sp_reach [] (dCons (dVar 0) dNil)) (dCons (dCall PG.sp_reach [] (dCons (dVar 1) dNil)) dNil))) (dC (.int 0)))))))
@[irreducible] def sp_comes_before : FSpec := spOf false 2 3 w_comes_before

def w_in_order : DS := (dSeq (dSet 1 (dLstO dNil))
  (dSeq (dFor (dAny (dVar 0)) (.nm 2)
  (dIfS (dTest (dOp (rIn true) (dVar 2) (dVar 1)))
  (dSeq (dSet 3 (dBi bLen (dCons (dLc false (dAny (dVar 1)) (.nm 4) (dTru (dCall PG.sp_comes_before [] (dCons (dVar 4) (dCons (dVar 2) dNil)))) (dVar 4) [4]) dNil)))
  (dDo (dMeth mInsert (dVar 1) (dCons (dVar 3) (dCons (dVar 2) dNil)))))
  dNext))
  (dRet (dVar 1))))
@[irreducible] def sp_in_order : FSpec := spOf false 1 5 w_in_order

def w__law_plane : DS := (dSeq (dSet 3 (dOp rMul (dOp rMul (dOp rIx (dVar 0) (dC (.int 1))) (dOp rIx (dVar 1) (dC (.int 1)))) (dOp rIx (dVar 2) (dC (.int 1)))))
  (dSeq (dSet 5 (dLc false (dAny (dLst (dCons (dVar 0) (dCons (dVar 1) (dCons (dVar 2) dNil))))) (.nm 4) dYes (dOp rMul (dOp rIx (dVar 4) (dC (.int 0))) (dOp rDiv (dVar 3) (dOp rIx (dVar 4) (dC (.int 1))))) [4]))
  (dSeq (dSet 6 (dC (.int 0)))
  (dSeq (dFor (dAny (dVar 5)) (.nm 4)
  (dSeq (dSet 7 (dBi bAbs (dCons (dVar 4) dNil)))
  (dWhile (dTest (dOp rGt (dVar 7) (dC (.int 0))))
  (dPar 6 7 (dCons (dVar 7) (dCons (dOp rMod (dBi bInt (dCons (dVar 6) dNil)) (dBi bInt (dCons (dVar 7) dNil))) dNil))))))
  (dRet (dTup (dCons (dOp rDiv (dOp rIx (dVar 5) (dC (.int 0))) (dVar 6)) (dCons (dOp rDiv (dOp rIx (dVar 5) (dC (.int 1))) (dVar 6)) (dCons (dOp rDiv (dOp rIx (dVar 5) (dC (.int 2))) (dVar 6)) dNil)))))))))
@[irreducible] def sp__law_plane : FSpec := spOf false 3 8 w__law_plane

def w__law_cross : DS := (dRet (dOp rSub (dOp rMul (dOp rIx (dVar 0) (dC (.int 0))) (dOp rIx (dVar 1) (dC (.int 1)))) (dOp rMul (dOp rIx (dVar 0) (dC (.int 1))) (dOp rIx (dVar 1) (dC (.int 0))))))
@[irreducible] def sp__law_cross : FSpec := spOf false 2 2 w__law_cross

def w__law_before : DS := (dSeq (dSet 2 (dLc false (dAny (dLst (dCons (dVar 0) (dCons (dVar 1) dNil)))) (.nm 5) dYes (dBi bInt (dCons (dOrV (dOp rLt (dOp rIx (dVar 5) (dC (.int 1))) (dC (.int 0))) (dAndV (dOp rEq (dOp rIx (dVar 5) (dC (.int 1))) (dC (.int 0))) (dOp rLt (dOp rIx (dVar 5) (dC (.int 0))) (dC (.int 0))))) dNil)) [5]))
  (dSeq (dIfS (dTest (dOp rNe (dOp rIx (dVar 2) (dC (.int 0))) (dOp rIx (dVar 2) (dC (.int 1)))))
  (dRet (dOp rLt (dOp rIx (dVar 2) (dC (.int 0))) (dOp rIx (dVar 2) (dC (.int 1)))))
  dNext)
  (dSeq (dSet 3 (dCall PG.sp__law_cross [] (dCons (dVar 0) (dCons (dVar 1) dNil))))
  (dSeq (dIfS (dTest (dOp rNe (dVar 3) (dC (.int 0))))
  (dRet (dOp rGt (dVar 3) (dC (.int 0))))
  dNext)
  (dSeq (dSet 4 (dLc false (dAny (dLst (dCons (dVar 0) (dCons (dVar 1) dNil)))) (.nm 5) dYes (dOp rAddA (dBi bAbs (dCons (dOp rIx (dVar 5) (dC (.int 0))) dNil)) (dBi bAbs (dCons (dOp rIx (dVar 5) (dC (.int 1))) dNil))) [5]))
  (dRet (dOp rLt (dOp rMul (dOp rIx (dVar 0) (dC (.int 2))) (dOp rIx (dVar 4) (dC (.int 1)))) (dOp rMul (dOp rIx (dVar 1) (dC (.int 2))) (dOp rIx (dVar 4) (dC (.int 0)))))))))))
@[irreducible] def sp__law_before : FSpec := spOf false 2 6 w__law_before

def w__law_sorted : DS := (dSeq (dSet 1 (dLstO dNil))
  (dSeq (dFor (dAny (dVar 0)) (.nm 2)
  (dIfS (dTest (dOp (rIn true) (dVar 2) (dVar 1)))
  (dDo (dMeth mAppend (dVar 1) (dCons (dVar 2) dNil)))
  dNext))
  (dSeq (dSet 3 (dLstO dNil))
  (dSeq (dWhile (dTru (dVar 1))
  (dSeq (dSet 4 (dOp rIx (dVar 1) (dC (.int 0))))
  (dSeq (dFor (dAny (dVar 1)) (.nm 2)
  (dIfS (dTru (dCall PG.sp__law_before [] (dCons (dVar 2) (dCons (dVar 4) dNil))))
  (dSet 4 (dVar 2))
  dNext))
  (dSeq (dDo (dMeth mRemove (dVar 1) (dCons (dVar 4) dNil)))
  (dDo (dMeth mAppend (dVar 3) (dCons (dVar 4) dNil)))))))
  (dRet (dVar 3))))))
@[irreducible] def sp__law_sorted : FSpec := spOf false 1 5 w__law_sorted

def w__law_opposite : DS := (dRet (dTup (dCons (rU rNeg (dOp rIx (dVar 0) (dC (.int 0)))) (dCons (rU rNeg (dOp rIx (dVar 0) (dC (.int 1)))) (dCons (rU rNeg (dOp rIx (dVar 0) (dC (.int 2)))) dNil)))))
@[irreducible] def sp__law_opposite : FSpec := spOf false 1 1 w__law_opposite

def w__law_halves : DS := (dSeq (dSet 2 (dLstO dNil))
  (dSeq (dFor (dRange1 (dCons (dCall PG.sp__law_draw_2 [] (dCons (dVar 0) (dCons (dOp rAddA (dVar 1) (dC (.int 1))) dNil))) dNil)) (.nm 3)
  (dSeq (dSet 4 (dOp rSub (dCall PG.sp__law_draw_2 [] (dCons (dVar 0) (dCons (dC (.int 7)) dNil))) (dC (.int 3))))
  (dSeq (dSet 5 (dOp rSub (dCall PG.sp__law_draw_2 [] (dCons (dVar 0) (dCons (dC (.int 7)) dNil))) (dC (.int 3))))
  (dSeq (dIfS (dAnd (dTest (dOp rEq (dVar 4) (dC (.int 0)))) (dTest (dOp rEq (dVar 5) (dC (.int 0)))))
  (dSet 5 (dC (.int 1)))
  dNext)
  (dSeq (dDo (dMeth mAppend (dVar 2) (dCons (dCall PG.sp__law_plane [] (dCons (dTup (dCons (dVar 4) (dCons (dC (.int 1)) dNil))) (dCons (dTup (dCons (dVar 5) (dCons (dC (.int 1)) dNil))) (dCons (dCall PG.sp__law_fraction [] (dCons (dVar 0) dNil)) dNil)))) dNil)))
  (dSeq (dIfS (dTest (dOp rEq (dCall PG.sp__law_draw_2 [] (dCons (dVar 0) (dCons (dC (.int 5)) dNil))) (dC (.int 0))))
  (dDo (dMeth mAppend (dVar 2) (dCons (dCall PG.sp__law_plane [] (dCons (dTup (dCons (rU rNeg (dVar 4)) (dCons (dC (.int 1)) dNil))) (dCons (dTup (dCons (rU rNeg (dVar 5)) (dCons (dC (.int 1)) dNil))) (dCons (dCall PG.sp__law_add_2 [] (dCons (dCall PG.sp__law_neg [] (dCons (dCall PG.sp__law_fraction [] (dCons (dVar 0) dNil)) dNil)) (dCons (dTup (dCons (dCall PG.sp__law_draw_2 [] (dCons (dVar 0) (dCons (dC (.int 3)) dNil))) (dCons (dC (.int 1)) dNil))) dNil))) dNil)))) dNil)))
  dNext)
  (dIfS (dTest (dOp rEq (dCall PG.sp__law_draw_2 [] (dCons (dVar 0) (dCons (dC (.int 7)) dNil))) (dC (.int 0))))
  (dDo (dMeth mAppend (dVar 2) (dCons (dCall PG.sp__law_opposite [] (dCons (dOp rIx (dVar 2) (dC (.int 0))) dNil)) dNil)))
  dNext)))))))
  (dRet (dVar 2))))
@[irreducible] def sp__law_halves : FSpec := spOf true 2 6 w__law_halves

def w_law_8 : DS := (dSeq (dSet 1 (dCall PG.sp__law_box [] (dCons (dVar 0) (dCons (dC (.int 0)) (dCons (dC (.int 50)) dNil)))))
  (dSeq (dSet 2 (dCall PG.sp__law_halves [] (dCons (dVar 1) (dCons (dC (.int 6)) dNil))))
  (dSeq (dSet 2 (dCat true (dVar 2) (dSl false (dVar 2) dNoP (dPart (dCall PG.sp__law_draw_2 [] (dCons (dVar 1) (dCons (dC (.int 3)) dNil)))))))
  (dSeq (dIfS (dTru (dVar 2))
  (dDo (dMeth mAppend (dVar 2) (dCons (dCall PG.sp__law_plane [] (dCons (dTup (dCons (dOp rMul (dC (.int 2)) (dOp rIx (dOp rIx (dVar 2) (dC (.int 0))) (dC (.int 0)))) (dCons (dC (.int 1)) dNil))) (dCons (dTup (dCons (dOp rMul (dC (.int 2)) (dOp rIx (dOp rIx (dVar 2) (dC (.int 0))) (dC (.int 1)))) (dCons (dC (.int 1)) dNil))) (dCons (dCall PG.sp__law_fraction [] (dCons (dVar 1) dNil)) dNil)))) dNil)))
  dNext)
  (dSeq (dIfS (dNot (dTru (dCall PG.sp__law_same [] (dCons (dCall PG.sp_in_order [] (dCons (dFz 2) dNil)) (dCons (dCall PG.sp__law_sorted [] (dCons (dFz 2) dNil)) dNil)))))
  (dRet (dC (.bl false)))
  dNext)
  (dSeq (dFor (dAny (dSl false (dVar 2) dNoP (dPart (dC (.int 4))))) (.nm 3)
  (dSeq (dIfS (dTest (dOp rNe (dCall PG.sp_opposite [] (dCons (dVar 3) dNil)) (dCall PG.sp__law_opposite [] (dCons (dVar 3) dNil))))
  (dRet (dC (.bl false)))
  dNext)
  (dFor (dAny (dSl false (dVar 2) dNoP (dPart (dC (.int 4))))) (.nm 4)
  (dSeq (dIfS (dAnd (dTest (dOp rNe (dVar 3) (dVar 4))) (dTest (dOp rNe (dCall PG.sp_comes_before [] (dCons (dVar 3) (dCons (dVar 4) dNil))) (dCall PG.sp__law_before [] (dCons (dVar 3) (dCons (dVar 4) dNil))))))
  (dRet (dC (.bl false)))
  dNext)
  (dIfS (dOr (dTest (dOp rNe (dCall PG.sp_cross [] (dCons (dVar 3) (dCons (dVar 4) dNil))) (dCall PG.sp__law_cross [] (dCons (dVar 3) (dCons (dVar 4) dNil))))) (dTest (dOp rNe (dCall PG.sp_dot [] (dCons (dVar 3) (dCons (dVar 4) dNil))) (dOp rAddA (dOp rMul (dOp rIx (dVar 3) (dC (.int 0))) (dOp rIx (dVar 4) (dC (.int 0)))) (dOp rMul (dOp rIx (dVar 3) (dC (.int 1))) (dOp rIx (dVar 4) (dC (.int 1))))))))
  (dRet (dC (.bl false)))
  dNext)))))
  (dRet (dC (.bl true)))))))))
@[irreducible] def sp_law_8 : FSpec := spOf false 1 5 w_law_8

def w_make_half_plane : DS := (dSeq (dIfS (dAnd (dTest (dOp rEq (dVar 0) (dC PG.v_ZERO))) (dTest (dOp rEq (dVar 1) (dC PG.v_ZERO))))
  dNever
  dNext)
  (dSeq (dSet 3 (dOp rMul (dOp rMul (dOp rIx (dVar 0) (dC (.int 1))) (dOp rIx (dVar 1) (dC (.int 1)))) (dOp rIx (dVar 2) (dC (.int 1)))))
  (dSeq (dSet 4 (dLc false (dAny (dTup (dCons (dVar 0) (dCons (dVar 1) (dCons (dVar 2) dNil))))) (.nm 6) dYes (dOp rMul (dOp rIx (dVar 6) (dC (.int 0))) (dOp rDiv (dVar 3) (dOp rIx (dVar 6) (dC (.int 1))))) [6]))
  (dSeq (dSet 5 (dCall PG.sp_common_divisor [] (dCons (dCall PG.sp_common_divisor [] (dCons (dOp rIx (dVar 4) (dC (.int 0))) (dCons (dOp rIx (dVar 4) (dC (.int 1))) dNil))) (dCons (dOp rIx (dVar 4) (dC (.int 2))) dNil))))
  (dRet (dTup (dCons (dOp rDiv (dOp rIx (dVar 4) (dC (.int 0))) (dVar 5)) (dCons (dOp rDiv (dOp rIx (dVar 4) (dC (.int 1))) (dVar 5)) (dCons (dOp rDiv (dOp rIx (dVar 4) (dC (.int 2))) (dVar 5)) dNil)))))))))
@[irreducible] def sp_make_half_plane : FSpec := spOf false 3 7 w_make_half_plane

def w_edges_of : DS := (dSeq (dAsg (dVar 2) (.tp [3, 4, 5, 6, 7, 8]))
  (dSeq (dSet 9 (dLstO dNil))
  (dSeq (dIfS (dTest (dNotN (dOp rIx (dVar 1) (dC (.int 1)))))
  (dDo (dMeth mAppend (dVar 9) (dCons (dTup (dCons (dTup (dCons (dVar 0) (dCons (dC (.str ("lower" : Str))) dNil))) (dCons (dCall PG.sp_make_half_plane [] (dCons (dCall PG.sp_negative [] (dCons (dVar 3) dNil)) (dCons (dCall PG.sp_negative [] (dCons (dVar 4) dNil)) (dCons (dCall PG.sp_subtract [] (dCons (dVar 7) (dCons (dOp rIx (dVar 1) (dC (.int 1))) dNil))) dNil)))) dNil))) dNil)))
  dNext)
  (dSeq (dIfS (dTest (dNotN (dOp rIx (dVar 1) (dC (.int 2)))))
  (dDo (dMeth mAppend (dVar 9) (dCons (dTup (dCons (dTup (dCons (dVar 0) (dCons (dC (.str ("upper" : Str))) dNil))) (dCons (dCall PG.sp_make_half_plane [] (dCons (dVar 3) (dCons (dVar 4) (dCons (dCall PG.sp_subtract [] (dCons (dOp rIx (dVar 1) (dC (.int 2))) (dCons (dVar 7) dNil))) dNil)))) dNil))) dNil)))
  dNext)
  (dRet (dVar 9))))))
@[irreducible] def sp_edges_of : FSpec := spOf false 3 10 w_edges_of

def w_half_planes_of : DS := (dSeq (dSet 1 (dLst dNil))
  (dSeq (dSet 2 (dC PG.v_IDENTITY))
  (dSeq (dFor (dEnum (dCons (dVar 0) dNil)) (.tp [3, 4])
  (dSeq (dIfS (dTest (dOp rEq (dOp rIx (dVar 4) (dC (.int 0))) (dC (.str ("stop" : Str)))))
  (dSet 1 (dOp rAddA (dVar 1) (dCall PG.sp_edges_of [] (dCons (dVar 3) (dCons (dVar 4) (dCons (dVar 2) dNil))))))
  dNext)
  (dSet 2 (dCall PG.sp_compose_maps [] (dCons (dVar 2) (dCons (dCall PG.sp_element_map [] (dCons (dVar 4) dNil)) dNil))))))
  (dRet (dVar 1)))))
@[irreducible] def sp_half_planes_of : FSpec := spOf false 1 5 w_half_planes_of

def w_value_at : DS := (dRet (dCall PG.sp_add [] (dCons (dCall PG.sp_multiply [] (dCons (dCall PG.sp_fraction [.d (.int 1)] (dCons (dOp rIx (dVar 0) (dC (.int 0))) dNil)) (dCons (dOp rIx (dVar 1) (dC (.int 0))) dNil))) (dCons (dCall PG.sp_multiply [] (dCons (dCall PG.sp_fraction [.d (.int 1)] (dCons (dOp rIx (dVar 0) (dC (.int 1))) dNil)) (dCons (dOp rIx (dVar 1) (dC (.int 1))) dNil))) dNil))))
@[irreducible] def sp_value_at : FSpec := spOf false 2 2 w_value_at

def w_contains_ray : DS := (dRet (dGx true (dAny (dVar 0)) (.nm 2) (dOp rLe (dCall PG.sp_compare [] (dCons (dCall PG.sp_value_at [] (dCons (dVar 2) (dCons (dVar 1) dNil))) (dCons (dCall PG.sp_fraction [.d (.int 1)] (dCons (dOp rIx (dVar 2) (dC (.int 2))) dNil)) dNil))) (dC (.int 0))) [2]))
@[irreducible] def sp_contains_ray : FSpec := spOf false 2 3 w_contains_ray

def w_determinant : DS := (dRet (dOp rSub (dOp rMul (dOp rIx (dVar 0) (dC (.int 0))) (dOp rIx (dVar 1) (dC (.int 1)))) (dOp rMul (dOp rIx (dVar 0) (dC (.int 1))) (dOp rIx (dVar 1) (dC (.int 0))))))
@[irreducible] def sp_determinant : FSpec := spOf false 2 2 w_determinant

def w_product : DS := (dRet (dOp rAddA (dOp rMul (dOp rIx (dVar 0) (dC (.int 0))) (dOp rIx (dVar 1) (dC (.int 0)))) (dOp rMul (dOp rIx (dVar 0) (dC (.int 1))) (dOp rIx (dVar 1) (dC (.int 1))))))
@[irreducible] def sp_product : FSpec := spOf false 2 2 w_product

def w_opposite_weights : DS := (dSeq (dIfS (dOr (dTest (dOp rNe (dCall PG.sp_determinant [] (dCons (dVar 0) (dCons (dVar 1) dNil))) (dC (.int 0)))) (dTest (dOp rGe (dCall PG.sp_product [] (dCons (dVar 0) (dCons (dVar 1) dNil))) (dC (.int 0)))))
  (dRet (dC .non))
  dNext)
  (dSeq (dSet 2 (dOp rAddA (dBi bAbs (dCons (dOp rIx (dVar 1) (dC (.int 0))) dNil)) (dBi bAbs (dCons (dOp rIx (dVar 1) (dC (.int 1))) dNil))))
  (dSeq (dSet 3 (dOp rAddA (dBi bAbs (dCons (dOp rIx (dVar 0) (dC (.int 0))) dNil)) (dBi bAbs (dCons (dOp rIx (dVar 0) (dC (.int 1))) dNil))))
  (dSeq (dSet 4 (dCall PG.sp_common_divisor [] (dCons (dVar 2) (dCons (dVar 3) dNil))))
  (dRet (dTup (dCons (dOp rDiv (dVar 2) (dVar 4)) (dCons (dOp rDiv (dVar 3) (dVar 4)) dNil))))))))
@[irreducible] def sp_opposite_weights : FSpec := spOf false 2 5 w_opposite_weights

def w_triple_weights : DS := (dSeq (dSet 3 (dLst (dCons (dCall PG.sp_determinant [] (dCons (dVar 1) (dCons (dVar 2) dNil))) (dCons (dCall PG.sp_determinant [] (dCons (dVar 2) (dCons (dVar 0) dNil))) (dCons (dCall PG.sp_determinant [] (dCons (dVar 0) (dCons (dVar 1) dNil))) dNil)))))
  (dSeq (dIfS (dTest (dOp rLt (dOp rIx (dVar 3) (dC (.int 0))) (dC (.int 0))))
  (dSet 3 (dLc false (dAny (dVar 3)) (.nm 5) dYes (rU rNeg (dVar 5)) [5]))
  dNext)
  (dSeq (dIfS (dTru (dGx false (dAny (dVar 3)) (.nm 5) (dOp rLe (dVar 5) (dC (.int 0))) [5]))
  (dRet (dC .non))
  dNext)
  (dSeq (dSet 4 (dCall PG.sp_common_divisor [] (dCons (dCall PG.sp_common_divisor [] (dCons (dOp rIx (dVar 3) (dC (.int 0))) (dCons (dOp rIx (dVar 3) (dC (.int 1))) dNil))) (dCons (dOp rIx (dVar 3) (dC (.int 2))) dNil))))
  (dRet (dBi bTuple (dCons (dLc false (dAny (dVar 3)) (.nm 5) dYes (dOp rDiv (dVar 5) (dVar 4)) [5]) dNil)))))))
@[irreducible] def sp_triple_weights : FSpec := spOf false 3 6 w_triple_weights

def w_opposing_sets : DS := (dSeq (dSet 1 (dBi bLen (dCons (dVar 0) dNil)))
  (dSeq (dSet 2 (dLstO dNil))
  (dSeq (dFor (dRange1 (dCons (dVar 1) dNil)) (.nm 3)
  (dFor (dRange2 (dCons (dOp rAddA (dVar 3) (dC (.int 1))) (dCons (dVar 1) dNil))) (.nm 4)
  (dDo (dMeth mAppend (dVar 2) (dCons (dTup (dCons (dTup (dCons (dVar 3) (dCons (dVar 4) dNil))) (dCons (dCall PG.sp_opposite_weights [] (dCons (dOp rIx (dVar 0) (dVar 3)) (dCons (dOp rIx (dVar 0) (dVar 4)) dNil))) dNil))) dNil)))))
  (dSeq (dFor (dRange1 (dCons (dVar 1) dNil)) (.nm 3)
  (dFor (dRange2 (dCons (dOp rAddA (dVar 3) (dC (.int 1))) (dCons (dVar 1) dNil))) (.nm 4)
  (dFor (dRange2 (dCons (dOp rAddA (dVar 4) (dC (.int 1))) (dCons (dVar 1) dNil))) (.nm 5)
  (dDo (dMeth mAppend (dVar 2) (dCons (dTup (dCons (dTup (dCons (dVar 3) (dCons (dVar 4) (dCons (dVar 5) dNil)))) (dCons (dCall PG.sp_triple_weights [] (dCons (dOp rIx (dVar 0) (dVar 3)) (dCons (dOp rIx (dVar 0) (dVar 4)) (dCons (dOp rIx (dVar 0) (dVar 5)) dNil)))) dNil))) dNil))))))
  (dRet (dLc false (dAny (dVar 2)) (.nm 6) (dTest (dNotN (dOp rIx (dVar 6) (dC (.int 1))))) (dVar 6) [6]))))))
@[irreducible] def sp_opposing_sets : FSpec := spOf false 1 7 w_opposing_sets

def w_number_of : DS := (dRet (dBi bSum (dCons (dLc false (dZipT (dCons (dVar 1) (dCons (dVar 2) dNil))) (.tp [3, 4]) dYes (dOp rMul (dOp rIx (dOp rIx (dVar 0) (dVar 3)) (dC (.int 2))) (dVar 4)) [3, 4]) dNil)))
@[irreducible] def sp_number_of : FSpec := spOf false 3 5 w_number_of

def w_is_empty : DS := (dRet (dGx false (dAny (dCall PG.sp_opposing_sets [] (dCons (dVar 0) dNil))) (.tp [1, 2]) (dOp rLt (dCall PG.sp_number_of [] (dCons (dVar 0) (dCons (dVar 1) (dCons (dVar 2) dNil)))) (dC (.int 0))) [1, 2]))
@[irreducible] def sp_is_empty : FSpec := spOf false 1 3 w_is_empty

def w_emptiness_certificate : DS := (dSeq (dFor (dAny (dCall PG.sp_opposing_sets [] (dCons (dVar 0) dNil))) (.tp [1, 2])
  (dIfS (dTest (dOp rLt (dCall PG.sp_number_of [] (dCons (dVar 0) (dCons (dVar 1) (dCons (dVar 2) dNil)))) (dC (.int 0))))
  (dRet (dLc false (dZipT (dCons (dVar 1) (dCons (dVar 2) dNil))) (.tp [3, 4]) dYes (dTup (dCons (dVar 3) (dCons (dCall PG.sp_fraction [.d (.int 1)] (dCons (dVar 4) dNil)) dNil))) [3, 4]))
  dNext))
  (dRet (dC .non)))
@[irreducible] def sp_emptiness_certificate : FSpec := spOf false 1 5 w_emptiness_certificate

def w_sum_of : DS := (dSeq (dSet 2 (dTup (dCons (dC PG.v_ZERO) (dCons (dC PG.v_ZERO) (dCons (dC PG.v_ZERO) dNil)))))
  (dSeq (dFor (dAny (dVar 1)) (.tp [3, 4])
  (dSeq (dSet 5 (dLc false (dAny (dOp rIx (dVar 0) (dVar 3))) (.nm 6) dYes (dCall PG.sp_multiply [] (dCons (dVar 4) (dCons (dCall PG.sp_fraction [.d (.int 1)] (dCons (dVar 6) dNil)) dNil))) [6]))
  (dSet 2 (dBi bTuple (dCons (dLc false (dZipM (dCons (dVar 2) (dCons (dVar 5) dNil))) (.tp [7, 8]) dYes (dCall PG.sp_add [] (dCons (dVar 7) (dCons (dVar 8) dNil))) [7, 8]) dNil)))))
  (dRet (dVar 2))))
@[irreducible] def sp_sum_of : FSpec := spOf false 2 9 w_sum_of

def w_is_certificate : DS := (dSeq (dSet 2 (dLc false (dAny (dVar 1)) (.tp [3, 4]) dYes (dVar 3) [3, 4]))
  (dSeq (dIfS (dTru (dGx false (dRange1 (dCons (dOp rSub (dBi bLen (dCons (dVar 2) dNil)) (dC (.int 1))) dNil)) (.nm 5) (dOp rGe (dOp rIx (dVar 2) (dVar 5)) (dOp rIx (dVar 2) (dOp rAddA (dVar 5) (dC (.int 1))))) [5]))
  (dRet (dC (.bl false)))
  dNext)
  (dRet (dGx true (dAny (dVar 1)) (.tp [3, 4]) (dAndV (dChainI (fun i j => decide (i ≤ j)) (fun i j => decide (i < j)) (dC (.int 0)) (dVar 3) (dBi bLen (dCons (dVar 0) dNil))) (dOp rGt (dCall PG.sp_sign [] (dCons (dVar 4) dNil)) (dC (.int 0)))) [3, 4]))))
@[irreducible] def sp_is_certificate : FSpec := spOf false 2 6 w_is_certificate

def w_verify_emptiness : DS := (dSeq (dIfS (dNot (dTru (dCall PG.sp_is_certificate [] (dCons (dVar 0) (dCons (dVar 1) dNil)))))
  (dRet (dC (.bl false)))
  dNext)
  (dSeq (dAsg (dCall PG.sp_sum_of [] (dCons (dVar 0) (dCons (dVar 1) dNil))) (.tp [2, 3, 4]))
  (dRet (dAndV (dOp rEq (dVar 2) (dC PG.v_ZERO)) (dAndV (dOp rEq (dVar 3) (dC PG.v_ZERO)) (dOp rLt (dCall PG.sp_sign [] (dCons (dVar 4) dNil)) (dC (.int 0))))))))
@[irreducible] def sp_verify_emptiness : FSpec := spOf false 2 5 w_verify_emptiness

def w__law_plane_2 : DS := (dSeq (dSet 1 (dOp rSub (dCall PG.sp__law_draw [] (dCons (dVar 0) (dCons (dC (.int 5)) dNil))) (dC (.int 2))))
  (dSeq (dSet 2 (dOp rSub (dCall PG.sp__law_draw [] (dCons (dVar 0) (dCons (dC (.int 5)) dNil))) (dC (.int 2))))
  (dSeq (dIfS (dAnd (dTest (dOp rEq (dVar 1) (dC (.int 0)))) (dTest (dOp rEq (dVar 2) (dC (.int 0)))))
  (dSet 1 (dC (.int 1)))
  dNext)
  (dSeq (dSet 3 (dOp rSub (dCall PG.sp__law_draw [] (dCons (dVar 0) (dCons (dC (.int 11)) dNil))) (dC (.int 4))))
  (dSeq (dSet 4 (dCall PG.sp__law_divisor [] (dCons (dCall PG.sp__law_divisor [] (dCons (dVar 1) (dCons (dVar 2) dNil))) (dCons (dVar 3) dNil))))
  (dRet (dTup (dCons (dOp rDiv (dVar 1) (dVar 4)) (dCons (dOp rDiv (dVar 2) (dVar 4)) (dCons (dOp rDiv (dVar 3) (dVar 4)) dNil))))))))))
@[irreducible] def sp__law_plane_2 : FSpec := spOf false 1 5 w__law_plane_2

def w__law_planes : DS := (dSeq (dSet 2 (dLc true (dRange1 (dCons (dCall PG.sp__law_draw [] (dCons (dVar 0) (dCons (dOp rAddA (dVar 1) (dC (.int 1))) dNil))) dNil)) (.nm 4) dYes (dCall PG.sp__law_plane_2 [] (dCons (dVar 0) dNil)) [4]))
  (dSeq (dIfS (dAnd (dTest (dOp rGt (dBi bLen (dCons (dVar 2) dNil)) (dC (.int 0)))) (dTest (dOp rEq (dCall PG.sp__law_draw [] (dCons (dVar 0) (dCons (dC (.int 4)) dNil))) (dC (.int 0)))))
  (dSeq (dSet 3 (dOp rIx (dVar 2) (dCall PG.sp__law_draw [] (dCons (dVar 0) (dCons (dBi bLen (dCons (dVar 2) dNil)) dNil)))))
  (dDo (dMeth mAppend (dVar 2) (dCons (dTup (dCons (dOp rSub (dC (.int 0)) (dOp rIx (dVar 3) (dC (.int 0)))) (dCons (dOp rSub (dC (.int 0)) (dOp rIx (dVar 3) (dC (.int 1)))) (dCons (dOp rSub (dC (.int 0)) (dOp rIx (dVar 3) (dC (.int 2)))) dNil)))) dNil))))
  dNext)
  (dRet (dVar 2))))
@[irreducible] def sp__law_planes : FSpec := spOf false 2 5 w__law_planes

def w__law_value : DS := (dRet (dCall PG.sp__law_add [] (dCons (dCall PG.sp__law_mul [] (dCons (dTup (dCons (dOp rIx (dVar 0) (dC (.int 0))) (dCons (dC (.int 1)) dNil))) (dCons (dOp rIx (dVar 1) (dC (.int 0))) dNil))) (dCons (dCall PG.sp__law_mul [] (dCons (dTup (dCons (dOp rIx (dVar 0) (dC (.int 1))) (dCons (dC (.int 1)) dNil))) (dCons (dOp rIx (dVar 1) (dC (.int 1))) dNil))) dNil))))
@[irreducible] def sp__law_value : FSpec := spOf false 2 2 w__law_value

def w__law_holds : DS := (dSeq (dFor (dAny (dVar 0)) (.nm 2)
  (dIfS (dTru (dCall PG.sp__law_less [] (dCons (dTup (dCons (dOp rIx (dVar 2) (dC (.int 2))) (dCons (dC (.int 1)) dNil))) (dCons (dCall PG.sp__law_value [] (dCons (dVar 2) (dCons (dVar 1) dNil))) dNil))))
  (dRet (dC (.bl false)))
  dNext))
  (dRet (dC (.bl true))))
@[irreducible] def sp__law_holds : FSpec := spOf false 2 3 w__law_holds

def w__law_meet : DS := (dSeq (dSet 2 (dOp rSub (dOp rMul (dOp rIx (dVar 0) (dC (.int 0))) (dOp rIx (dVar 1) (dC (.int 1)))) (dOp rMul (dOp rIx (dVar 0) (dC (.int 1))) (dOp rIx (dVar 1) (dC (.int 0))))))
  (dSeq (dIfS (dTest (dOp rEq (dVar 2) (dC (.int 0))))
  (dRet (dC .non))
  dNext)
  (dRet (dTup (dCons (dCall PG.sp__law_fr [] (dCons (dOp rSub (dOp rMul (dOp rIx (dVar 0) (dC (.int 2))) (dOp rIx (dVar 1) (dC (.int 1)))) (dOp rMul (dOp rIx (dVar 1) (dC (.int 2))) (dOp rIx (dVar 0) (dC (.int 1))))) (dCons (dVar 2) dNil))) (dCons (dCall PG.sp__law_fr [] (dCons (dOp rSub (dOp rMul (dOp rIx (dVar 0) (dC (.int 0))) (dOp rIx (dVar 1) (dC (.int 2)))) (dOp rMul (dOp rIx (dVar 1) (dC (.int 0))) (dOp rIx (dVar 0) (dC (.int 2))))) (dCons (dVar 2) dNil))) dNil))))))
@[irreducible] def sp__law_meet : FSpec := spOf false 2 3 w__law_meet

def w__law_points : DS := (dSeq (dSet 1 (dLstO (dCons (dTup (dCons (dTup (dCons (dC (.int 0)) (dCons (dC (.int 1)) dNil))) (dCons (dTup (dCons (dC (.int 0)) (dCons (dC (.int 1)) dNil))) dNil))) dNil)))
  (dSeq (dFor (dAny (dVar 0)) (.nm 2)
  (dSeq (dSet 3 (dOp rAddA (dOp rMul (dOp rIx (dVar 2) (dC (.int 0))) (dOp rIx (dVar 2) (dC (.int 0)))) (dOp rMul (dOp rIx (dVar 2) (dC (.int 1))) (dOp rIx (dVar 2) (dC (.int 1))))))
  (dSeq (dDo (dMeth mAppend (dVar 1) (dCons (dTup (dCons (dCall PG.sp__law_fr [] (dCons (dOp rMul (dOp rIx (dVar 2) (dC (.int 2))) (dOp rIx (dVar 2) (dC (.int 0)))) (dCons (dVar 3) dNil))) (dCons (dCall PG.sp__law_fr [] (dCons (dOp rMul (dOp rIx (dVar 2) (dC (.int 2))) (dOp rIx (dVar 2) (dC (.int 1)))) (dCons (dVar 3) dNil))) dNil))) dNil)))
  (dFor (dAny (dVar 0)) (.nm 4)
  (dSeq (dSet 5 (dCall PG.sp__law_meet [] (dCons (dVar 2) (dCons (dVar 4) dNil))))
  (dIfS (dTest (dNotN (dVar 5)))
  (dDo (dMeth mAppend (dVar 1) (dCons (dVar 5) dNil)))
  dNext))))))
  (dRet (dLc false (dAny (dVar 1)) (.nm 5) (dTru (dCall PG.sp__law_holds [] (dCons (dVar 0) (dCons (dVar 5) dNil)))) (dVar 5) [5]))))
@[irreducible] def sp__law_points : FSpec := spOf false 1 6 w__law_points

def w__law_pair : DS := (dSeq (dIfS (dOr (dTest (dOp rNe (dOp rMul (dOp rIx (dVar 0) (dC (.int 0))) (dOp rIx (dVar 1) (dC (.int 1)))) (dOp rMul (dOp rIx (dVar 0) (dC (.int 1))) (dOp rIx (dVar 1) (dC (.int 0)))))) (dTest (dOp rGe (dOp rAddA (dOp rMul (dOp rIx (dVar 0) (dC (.int 0))) (dOp rIx (dVar 1) (dC (.int 0)))) (dOp rMul (dOp rIx (dVar 0) (dC (.int 1))) (dOp rIx (dVar 1) (dC (.int 1))))) (dC (.int 0)))))
  (dRet (dC .non))
  dNext)
  (dSeq (dSet 2 (dOp rAddA (dBi bAbs (dCons (dOp rIx (dVar 1) (dC (.int 0))) dNil)) (dBi bAbs (dCons (dOp rIx (dVar 1) (dC (.int 1))) dNil))))
  (dSeq (dSet 3 (dOp rAddA (dBi bAbs (dCons (dOp rIx (dVar 0) (dC (.int 0))) dNil)) (dBi bAbs (dCons (dOp rIx (dVar 0) (dC (.int 1))) dNil))))
  (dSeq (dSet 4 (dCall PG.sp__law_divisor [] (dCons (dVar 2) (dCons (dVar 3) dNil))))
  (dSeq (dIfS (dTest (dOp rGe (dOp rAddA (dOp rMul (dOp rDiv (dVar 2) (dVar 4)) (dOp rIx (dVar 0) (dC (.int 2)))) (dOp rMul (dOp rDiv (dVar 3) (dVar 4)) (dOp rIx (dVar 1) (dC (.int 2))))) (dC (.int 0))))
  (dRet (dC .non))
  dNext)
  (dRet (dLst (dCons (dOp rDiv (dVar 2) (dVar 4)) (dCons (dOp rDiv (dVar 3) (dVar 4)) dNil)))))))))
@[irreducible] def sp__law_pair : FSpec := spOf false 2 5 w__law_pair

def w__law_three : DS := (dSeq (dSet 3 (dOp rSub (dOp rMul (dOp rIx (dVar 1) (dC (.int 0))) (dOp rIx (dVar 2) (dC (.int 1)))) (dOp rMul (dOp rIx (dVar 1) (dC (.int 1))) (dOp rIx (dVar 2) (dC (.int 0))))))
  (dSeq (dSet 4 (dOp rSub (dOp rMul (dOp rIx (dVar 2) (dC (.int 0))) (dOp rIx (dVar 0) (dC (.int 1)))) (dOp rMul (dOp rIx (dVar 2) (dC (.int 1))) (dOp rIx (dVar 0) (dC (.int 0))))))
  (dSeq (dSet 5 (dOp rSub (dOp rMul (dOp rIx (dVar 0) (dC (.int 0))) (dOp rIx (dVar 1) (dC (.int 1)))) (dOp rMul (dOp rIx (dVar 0) (dC (.int 1))) (dOp rIx (dVar 1) (dC (.int 0))))))
  (dSeq (dIfS (dTest (dOp rLt (dVar 3) (dC (.int 0))))
  (dPar3 3 4 5 (dCons (dOp rSub (dC (.int 0)) (dVar 3)) (dCons (dOp rSub (dC (.int 0)) (dVar 4)) (dCons (dOp rSub (dC (.int 0)) (dVar 5)) dNil))))
  dNext)
  (dSeq (dIfS (dOr (dTest (dOp rLe (dVar 3) (dC (.int 0)))) (dOr (dTest (dOp rLe (dVar 4) (dC (.int 0)))) (dOr (dTest (dOp rLe (dVar 5) (dC (.int 0)))) (dTest (dOp rGe (dOp rAddA (dOp rAddA (dOp rMul (dVar 3) (dOp rIx (dVar 0) (dC (.int 2)))) (dOp rMul (dVar 4) (dOp rIx (dVar 1) (dC (.int 2))))) (dOp rMul (dVar 5) (dOp rIx (dVar 2) (dC (.int 2))))) (dC (.int 0)))))))
  (dRet (dC .non))
  dNext)
  (dSeq (dSet 6 (dCall PG.sp__law_divisor [] (dCons (dCall PG.sp__law_divisor [] (dCons (dVar 3) (dCons (dVar 4) dNil))) (dCons (dVar 5) dNil))))
  (dRet (dLst (dCons (dOp rDiv (dVar 3) (dVar 6)) (dCons (dOp rDiv (dVar 4) (dVar 6)) (dCons (dOp rDiv (dVar 5) (dVar 6)) dNil)))))))))))
@[irreducible] def sp__law_three : FSpec := spOf false 3 7 w__law_three

def w__law_first : DS := (dSeq (dSet 1 (dBi bLen (dCons (dVar 0) dNil)))
  (dSeq (dFor (dRange1 (dCons (dVar 1) dNil)) (.nm 2)
  (dFor (dRange2 (dCons (dOp rAddA (dVar 2) (dC (.int 1))) (dCons (dVar 1) dNil))) (.nm 3)
  (dSeq (dSet 4 (dCall PG.sp__law_pair [] (dCons (dOp rIx (dVar 0) (dVar 2)) (dCons (dOp rIx (dVar 0) (dVar 3)) dNil))))
  (dIfS (dTest (dNotN (dVar 4)))
  (dRet (dLst (dCons (dTup (dCons (dVar 2) (dCons (dTup (dCons (dOp rIx (dVar 4) (dC (.int 0))) (dCons (dC (.int 1)) dNil))) dNil))) (dCons (dTup (dCons (dVar 3) (dCons (dTup (dCons (dOp rIx (dVar 4) (dC (.int 1))) (dCons (dC (.int 1)) dNil))) dNil))) dNil))))
  dNext))))
  (dSeq (dFor (dRange1 (dCons (dVar 1) dNil)) (.nm 2)
  (dFor (dRange2 (dCons (dOp rAddA (dVar 2) (dC (.int 1))) (dCons (dVar 1) dNil))) (.nm 3)
  (dFor (dRange2 (dCons (dOp rAddA (dVar 3) (dC (.int 1))) (dCons (dVar 1) dNil))) (.nm 5)
  (dSeq (dSet 4 (dCall PG.sp__law_three [] (dCons (dOp rIx (dVar 0) (dVar 2)) (dCons (dOp rIx (dVar 0) (dVar 3)) (dCons (dOp rIx (dVar 0) (dVar 5)) dNil)))))
  (dIfS (dTest (dNotN (dVar 4)))
  (dRet (dLst (dCons (dTup (dCons (dVar 2) (dCons (dTup (dCons (dOp rIx (dVar 4) (dC (.int 0))) (dCons (dC (.int 1)) dNil))) dNil))) (dCons (dTup (dCons (dVar 3) (dCons (dTup (dCons (dOp rIx (dVar 4) (dC (.int 1))) (dCons (dC (.int 1)) dNil))) dNil))) (dCons (dTup (dCons (dVar 5) (dCons (dTup (dCons (dOp rIx (dVar 4) (dC (.int 2))) (dCons (dC (.int 1)) dNil))) dNil))) dNil)))))
  dNext)))))
  (dRet (dC .non)))))
@[irreducible] def sp__law_first : FSpec := spOf false 1 6 w__law_first

def w_meeting : DS := (dSeq (dSet 2 (dCall PG.sp_determinant [] (dCons (dVar 0) (dCons (dVar 1) dNil))))
  (dSeq (dIfS (dTest (dOp rEq (dVar 2) (dC (.int 0))))
  (dRet (dC .non))
  dNext)
  (dSeq (dSet 3 (dCall PG.sp_fraction [] (dCons (dOp rSub (dOp rMul (dOp rIx (dVar 0) (dC (.int 2))) (dOp rIx (dVar 1) (dC (.int 1)))) (dOp rMul (dOp rIx (dVar 1) (dC (.int 2))) (dOp rIx (dVar 0) (dC (.int 1))))) (dCons (dVar 2) dNil))))
  (dSeq (dSet 4 (dCall PG.sp_fraction [] (dCons (dOp rSub (dOp rMul (dOp rIx (dVar 0) (dC (.int 0))) (dOp rIx (dVar 1) (dC (.int 2)))) (dOp rMul (dOp rIx (dVar 1) (dC (.int 0))) (dOp rIx (dVar 0) (dC (.int 2))))) (dCons (dVar 2) dNil))))
  (dRet (dTup (dCons (dVar 3) (dCons (dVar 4) dNil))))))))
@[irreducible] def sp_meeting : FSpec := spOf false 2 5 w_meeting

def w_is_before : DS := (dSeq (dSet 2 (dCall PG.sp_compare [] (dCons (dOp rIx (dVar 0) (dC (.int 0))) (dCons (dOp rIx (dVar 1) (dC (.int 0))) dNil))))
  (dSeq (dIfS (dTest (dOp rEq (dVar 2) (dC (.int 0))))
  (dSet 2 (dCall PG.sp_compare [] (dCons (dOp rIx (dVar 0) (dC (.int 1))) (dCons (dOp rIx (dVar 1) (dC (.int 1))) dNil))))
  dNext)
  (dRet (dOp rLt (dVar 2) (dC (.int 0))))))
@[irreducible] def sp_is_before : FSpec := spOf false 2 3 w_is_before

def w_put_in_order : DS := (dSeq (dIfS (dTest (dOp (rIn false) (dVar 1) (dVar 0)))
  (dRet (dVar 0))
  dNext)
  (dSeq (dSet 2 (dBi bLen (dCons (dLc false (dAny (dVar 0)) (.nm 3) (dTru (dCall PG.sp_is_before [] (dCons (dVar 3) (dCons (dVar 1) dNil)))) (dVar 3) [3]) dNil)))
  (dRet (dOp rAddA (dOp rAddA (dSl false (dVar 0) dNoP (dPart (dVar 2))) (dLst (dCons (dVar 1) dNil))) (dSl false (dVar 0) (dPart (dVar 2)) dNoP)))))
@[irreducible] def sp_put_in_order : FSpec := spOf false 2 4 w_put_in_order

def w_corners : DS := (dSeq (dSet 1 (dLst dNil))
  (dSeq (dFor (dEnum (dCons (dVar 0) dNil)) (.tp [2, 3])
  (dFor (dAny (dSl false (dVar 0) (dPart (dOp rAddA (dVar 2) (dC (.int 1)))) dNoP)) (.nm 4)
  (dSeq (dSet 5 (dCall PG.sp_meeting [] (dCons (dVar 3) (dCons (dVar 4) dNil))))
  (dIfS (dAnd (dTest (dNotN (dVar 5))) (dTru (dCall PG.sp_contains_ray [] (dCons (dVar 0) (dCons (dVar 5) dNil)))))
  (dSet 1 (dCall PG.sp_put_in_order [] (dCons (dVar 1) (dCons (dVar 5) dNil))))
  dNext))))
  (dRet (dVar 1))))
@[irreducible] def sp_corners : FSpec := spOf false 1 6 w_corners

end PG

set_option maxRecDepth 100000
set_option maxHeartbeats 4000000
namespace PG
open PySem PySem.Spec PyProof.Rows L2 RT
theorem abs_eq (a : Int) : (if a < 0 then -a else a) = (a.natAbs : Int) := by
  split <;> omega
theorem gcd_ok {a b : Int} {st : List Cell} {Q : Vl → List Cell → Prop} (h : Q (.d (.int (Int.gcd a b : Int))) st) : sp_common_divisor [.d (.int a), .d (.int b)] st Q := by
  unfold sp_common_divisor
  refine ⟨rfl, ?_⟩
  refine ⟨fun n m => ∃ x y : Nat, m = ⟨[some (.d (.int a)), some (.d (.int b)), some (.d (.int x)), some (.d (.int y))], st⟩ ∧ n = y ∧ Nat.gcd x y = Int.gcd a b, ⟨b.natAbs, a.natAbs, b.natAbs, ?_, rfl, rfl⟩, ?_⟩
  · rw [← abs_eq a, ← abs_eq b]
    rfl
  · rintro y m ⟨x, _, rfl, rfl, hg⟩
    refine ⟨trivial, ?_⟩
    show if (decide ((0 : Int) < y)) = true then _ else _
    by_cases hy : (0 : Int) < y
    · rw [if_pos (decide_eq_true hy)]
      refine ⟨by omega, ?_⟩
      refine ⟨x % y, Nat.mod_lt _ (by omega), y, x % y, ?_, rfl, ?_⟩
      · rw [Int.natCast_emod, ← Int.fmod_eq_emod_of_nonneg _ (by omega)]
        rfl
      · rw [← hg, Nat.gcd_comm x y, Nat.gcd_rec y x, Nat.gcd_comm]
    · rw [if_neg (by simp; omega)]
      have e : y = 0 := by omega
      subst e
      rw [Nat.gcd_zero_right] at hg
      show Q (.d (.int x)) (st.take st.length)
      rw [List.take_length, hg]
      exact h

/-- what is handed back at the store it began with -/
theorem ret_ok {kp : Bool} {st : List Cell} {Q : Vl → List Cell → Prop} {x : Dt} {sl : List (Option Vl)} (h : Q (.d x) st) : retD kp st.length Q (.d x) ⟨sl, st⟩ := by
  show Q (.d x) (st.take st.length)
  rw [List.take_length]
  exact h
theorem tk {st : List Cell} {Q : Vl → List Cell → Prop} {v : Vl} (h : Q v st) : Q v (st.take st.length) := by
  rw [List.take_length]
  exact h
/-- a fraction -/
def fr (q : Rat) : Dt := .tup [.int q.num, .int q.den]
/-- its size -/
def zb (q : Rat) : Nat := max q.num.natAbs.log2 q.den.log2 + 2
theorem fr_zero : Dt.tup [.int 0, .int 1] = fr 0 := rfl
theorem fr_one : Dt.tup [.int 1, .int 1] = fr 1 := rfl
theorem lineN {n : Nat} (h : Nat.ble n 1000 = true) : n ≤ sizeLine := Nat.le_trans (Nat.le_of_ble_eq_true h) (by decide)
theorem sign_self (d : Int) : d.sign * d = (d.natAbs : Int) := by
  rcases Int.lt_trichotomy d 0 with h | h | h
  · rw [Int.sign_eq_neg_one_of_neg h]
    omega
  · subst h
    rfl
  · rw [Int.sign_eq_one_of_pos h]
    omega
theorem sgn_div {n g s : Int} (hg : g ≠ 0) (h : g ∣ n) (hs : s = 1 ∨ s = -1) : n.fdiv (s * g) = s * n / g := by
  obtain ⟨k, rfl⟩ := h
  rcases hs with rfl | rfl
  · rw [Int.one_mul, Int.one_mul, Int.mul_fdiv_cancel_left _ hg, Int.mul_ediv_cancel_left _ hg]
  · rw [show g * k = (-1 * g) * (-k) by rw [Int.neg_one_mul, Int.neg_mul_neg], Int.mul_fdiv_cancel_left _ (by omega), show -1 * (-1 * g * -k) = g * (-k) by rw [Int.neg_one_mul, Int.neg_one_mul, Int.neg_mul, Int.neg_neg], Int.mul_ediv_cancel_left _ hg]
theorem fraction_ok {n d : Int} {st : List Cell} {Q : Vl → List Cell → Prop} (hd : d ≠ 0) (h : Q (.d (fr (Rat.divInt n d))) st) : sp_fraction [.d (.int n), .d (.int d)] st Q := by
  unfold sp_fraction
  refine ⟨rfl, ?_⟩
  refine gcd_ok ?_
  have hg : (Int.gcd n d : Int) ≠ 0 := by
    have : Int.gcd n d ≠ 0 := fun e => hd (Int.gcd_eq_zero_iff.mp e).2
    omega
  have hn : (Int.gcd n d : Int) ∣ n := Int.gcd_dvd_left ..
  have hd' : (Int.gcd n d : Int) ∣ d := Int.gcd_dvd_right ..
  have e1 : (Rat.divInt n d).num = d.sign * n / Int.gcd n d := by rw [Rat.num_divInt, Int.gcd_comm]
  have e2 : (((Rat.divInt n d).den : Nat) : Int) = d.sign * d / Int.gcd n d := by
    rw [Rat.den_divInt, if_neg hd, Int.natCast_ediv, Int.gcd_comm, sign_self]
  have fin : ∀ s : Int, (s = 1 ∨ s = -1) → s = d.sign → s * (Int.gcd n d : Int) ≠ 0 ∧ s * (Int.gcd n d : Int) ≠ 0 ∧ Q (.d (.tup [.int (n.fdiv (s * Int.gcd n d)), .int (d.fdiv (s * Int.gcd n d))])) st := fun s hs e => by
    refine ⟨by rcases hs with rfl | rfl <;> omega, by rcases hs with rfl | rfl <;> omega, ?_⟩
    rw [sgn_div hg hn hs, sgn_div hg hd' hs, e, ← e1, ← e2]
    exact h
  refine ⟨trivial, ?_⟩
  show if (decide (d < 0)) = true then _ else _
  by_cases hs : d < 0
  · rw [if_pos (decide_eq_true hs)]
    obtain ⟨a, b, c⟩ := fin (-1) (.inr rfl) (Int.sign_eq_neg_one_of_neg hs).symm
    rw [Int.neg_one_mul] at a b c
    exact ⟨a, b, lineN rfl, tk c⟩
  · rw [if_neg (by simp; omega)]
    obtain ⟨a, b, c⟩ := fin 1 (.inl rfl) (Int.sign_eq_one_of_pos (by omega)).symm
    rw [Int.one_mul] at a b c
    exact ⟨a, b, lineN rfl, tk c⟩

theorem log2_mul_le {a b : Nat} : (a * b).log2 ≤ a.log2 + b.log2 + 1 := by
  by_cases ha : a = 0
  · subst ha
    simp
  by_cases hb : b = 0
  · subst hb
    simp
  have h1 := Nat.lt_log2_self (n := a)
  have h2 := Nat.lt_log2_self (n := b)
  have h3 : a * b < 2 ^ (a.log2 + 1 + (b.log2 + 1)) := by
    rw [Nat.pow_add]
    exact Nat.mul_lt_mul'' h1 h2
  have h4 := (Nat.log2_lt (Nat.mul_ne_zero ha hb)).mpr h3
  omega
theorem log2_mono {a b : Nat} (h : a ≤ b) : a.log2 ≤ b.log2 := by
  by_cases ha : a = 0
  · subst ha
    simp
  have := Nat.lt_log2_self (n := b)
  have h4 := (Nat.log2_lt ha).mpr (Nat.lt_of_le_of_lt h this)
  omega
theorem log2_add_le {a b : Nat} : (a + b).log2 ≤ max a.log2 b.log2 + 1 := by
  have h1 : a + b ≤ 2 * max a b := by omega
  have h2 := log2_mono h1
  have h3 : (2 * max a b).log2 ≤ (max a b).log2 + 1 := by
    by_cases h : max a b = 0
    · rw [h]
      simp
    · rw [Nat.log2_two_mul h]
      exact Nat.le_refl _
  have h4 : (max a b).log2 ≤ max a.log2 b.log2 := by
    by_cases h : a ≤ b
    · rw [Nat.max_eq_right h]
      omega
    · rw [Nat.max_eq_left (by omega)]
      omega
  omega
theorem zb_divInt {n d : Int} (hd : d ≠ 0) : zb (Rat.divInt n d) ≤ max n.natAbs.log2 d.natAbs.log2 + 2 := by
  unfold zb
  have h1 : (Rat.divInt n d).num.natAbs ≤ n.natAbs := by
    rw [Rat.num_divInt]
    have : (d.sign * n / (d.gcd n : Int)).natAbs ≤ (d.sign * n).natAbs := Int.natAbs_ediv_le_natAbs ..
    rw [Int.natAbs_mul] at this
    have hs : d.sign.natAbs = 1 := by
      rcases Int.lt_or_gt_of_ne hd with h | h
      · rw [Int.sign_eq_neg_one_of_neg h]
        rfl
      · rw [Int.sign_eq_one_of_pos h]
        rfl
    rw [hs, Nat.one_mul] at this
    exact this
  have h2 : (Rat.divInt n d).den ≤ d.natAbs := by
    rw [Rat.den_divInt, if_neg hd]
    exact Nat.div_le_self ..
  have := log2_mono h1
  have := log2_mono h2
  omega
theorem zb_num (q : Rat) : q.num.natAbs.log2 + 2 ≤ zb q := by
  unfold zb
  omega
theorem zb_den (q : Rat) : q.den.log2 + 2 ≤ zb q := by
  unfold zb
  omega
theorem zb_add (x y : Rat) : zb (x + y) ≤ zb x + zb y := by
  have h := zb_divInt (n := x.num * y.den + y.num * x.den) (d := ((x.den * y.den : Nat) : Int)) (by
    have := x.den_nz
    have := y.den_nz
    have : x.den * y.den ≠ 0 := Nat.mul_ne_zero (by assumption) (by assumption)
    omega)
  rw [Rat.divInt_ofNat, ← Rat.add_def'] at h
  have hx1 := zb_num x
  have hx2 := zb_den x
  have hy1 := zb_num y
  have hy2 := zb_den y
  have m1 : (x.num * y.den).natAbs.log2 ≤ x.num.natAbs.log2 + y.den.log2 + 1 := by
    rw [Int.natAbs_mul, Int.natAbs_natCast]
    exact log2_mul_le
  have m2 : (y.num * x.den).natAbs.log2 ≤ y.num.natAbs.log2 + x.den.log2 + 1 := by
    rw [Int.natAbs_mul, Int.natAbs_natCast]
    exact log2_mul_le
  have m3 : (x.num * y.den + y.num * x.den).natAbs.log2 ≤ max (x.num * y.den).natAbs.log2 (y.num * x.den).natAbs.log2 + 1 :=
    Nat.le_trans (log2_mono (Int.natAbs_add_le ..)) log2_add_le
  have m4 : (((x.den * y.den : Nat) : Int)).natAbs.log2 ≤ x.den.log2 + y.den.log2 + 1 := by
    rw [Int.natAbs_natCast]
    exact log2_mul_le
  omega
theorem zb_mul (x y : Rat) : zb (x * y) ≤ zb x + zb y := by
  have h := zb_divInt (n := x.num * y.num) (d := ((x.den * y.den : Nat) : Int)) (by
    have := x.den_nz
    have := y.den_nz
    have : x.den * y.den ≠ 0 := Nat.mul_ne_zero (by assumption) (by assumption)
    omega)
  rw [Rat.divInt_ofNat, ← Rat.mul_def'] at h
  have hx1 := zb_num x
  have hx2 := zb_den x
  have hy1 := zb_num y
  have hy2 := zb_den y
  have m1 : (x.num * y.num).natAbs.log2 ≤ x.num.natAbs.log2 + y.num.natAbs.log2 + 1 := by
    rw [Int.natAbs_mul]
    exact log2_mul_le
  have m4 : (((x.den * y.den : Nat) : Int)).natAbs.log2 ≤ x.den.log2 + y.den.log2 + 1 := by
    rw [Int.natAbs_natCast]
    exact log2_mul_le
  omega
theorem zb_neg (x : Rat) : zb (-x) = zb x := by
  unfold zb
  rw [Rat.neg_num, Rat.neg_den, Int.natAbs_neg]
theorem zb_sub (x y : Rat) : zb (x - y) ≤ zb x + zb y := by
  rw [Rat.sub_eq_add_neg, ← zb_neg y]
  exact zb_add x (-y)
/-- the sizes that a product takes -/
def ZM : Nat := 60000000
theorem mulok {i j : Int} (h : i.natAbs.log2 + j.natAbs.log2 < ZM) : MulOk i j := Nat.lt_trans h (by unfold ZM; decide)
section
variable {x y : Rat} {st : List Cell} {Q : Vl → List Cell → Prop}
theorem den_pos (x : Rat) : ((x.den : Nat) : Int) ≠ 0 := by
  have := x.den_nz
  omega
theorem mul_nn (x y : Rat) : ((x.den : Nat) : Int) * ((y.den : Nat) : Int) ≠ 0 := Int.mul_ne_zero (den_pos x) (den_pos y)
theorem mk_nn {i j : Nat} {a b : Int} (ha : a.natAbs.log2 + 2 ≤ i) (hb : b.natAbs.log2 + 2 ≤ j) (h : i + j < ZM) : MulOk a b := mulok (by omega)
theorem dn (x : Rat) : ((x.den : Nat) : Int).natAbs.log2 + 2 ≤ zb x := by
  rw [Int.natAbs_natCast]
  exact zb_den x
theorem add_ok (hz : zb x + zb y < ZM) (h : Q (.d (fr (x + y))) st) : sp_add [.d (fr x), .d (fr y)] st Q := by
  unfold sp_add
  refine ⟨rfl, ?_⟩
  refine ⟨mk_nn (zb_num x) (dn y) hz, mk_nn (zb_num y) (dn x) (by omega), mk_nn (dn x) (dn y) hz, ?_⟩
  refine fraction_ok (mul_nn x y) (tk ?_)
  rw [← Int.natCast_mul, Rat.divInt_ofNat, ← Rat.add_def']
  exact h
theorem negative_ok (h : Q (.d (fr (-x))) st) : sp_negative [.d (fr x)] st Q := by
  unfold sp_negative
  refine ⟨rfl, lineN rfl, tk ?_⟩
  have e : fr (-x) = .tup [.int (-x.num), .int x.den] := by
    unfold fr
    rw [Rat.neg_num, Rat.neg_den]
  rw [e] at h
  exact h
theorem subtract_ok (hz : zb x + zb y < ZM) (h : Q (.d (fr (x - y))) st) : sp_subtract [.d (fr x), .d (fr y)] st Q := by
  unfold sp_subtract
  refine ⟨rfl, ?_⟩
  refine negative_ok ?_
  refine add_ok (by rw [zb_neg]; exact hz) (tk ?_)
  rw [← Rat.sub_eq_add_neg]
  exact h
theorem multiply_ok (hz : zb x + zb y < ZM) (h : Q (.d (fr (x * y))) st) : sp_multiply [.d (fr x), .d (fr y)] st Q := by
  unfold sp_multiply
  refine ⟨rfl, ?_⟩
  refine ⟨mk_nn (zb_num x) (zb_num y) hz, mk_nn (dn x) (dn y) hz, ?_⟩
  refine fraction_ok (mul_nn x y) (tk ?_)
  rw [← Int.natCast_mul, Rat.divInt_ofNat, ← Rat.mul_def']
  exact h
theorem num_nz {y : Rat} (hy : y ≠ 0) : y.num ≠ 0 := fun e => hy (Rat.num_eq_zero.mp e)
theorem divide_ok (hy : y ≠ 0) (hz : zb x + zb y < ZM) (h : Q (.d (fr (x / y))) st) : sp_divide [.d (fr x), .d (fr y)] st Q := by
  unfold sp_divide
  refine ⟨rfl, ?_⟩
  refine ⟨mk_nn (zb_num x) (dn y) hz, mk_nn (dn x) (zb_num y) hz, ?_⟩
  refine fraction_ok (Int.mul_ne_zero (den_pos x) (num_nz hy)) (tk ?_)
  have e : Rat.divInt (x.num * (y.den : Int)) ((x.den : Int) * y.num) = x / y := by
    rw [Rat.div_def]
    have e1 : y⁻¹ = Rat.divInt y.den y.num := by
      have := Rat.inv_divInt y.num y.den
      rw [Rat.num_divInt_den] at this
      exact this
    rw [e1]
    conv => rhs; rw [← Rat.num_divInt_den x]
    rw [Rat.divInt_mul_divInt]
  rw [e]
  exact h
/-- -1, 0, 1 -/
def sgn (x : Rat) : Int := if 0 < x then 1 else if x < 0 then -1 else 0
theorem num_neg_iff (x : Rat) : x.num < 0 ↔ x < 0 := by
  have h := Rat.num_nonneg (q := x)
  rw [← Rat.not_le, ← h]
  omega
theorem num_pos_iff (x : Rat) : 0 < x.num ↔ 0 < x := by
  have h := num_neg_iff (-x)
  rw [Rat.neg_num] at h
  have : (0 < x) ↔ (-x < 0) := by grind
  rw [this, ← h]
  omega
theorem sign_ok (h : Q (.d (.int (sgn x))) st) : sp_sign [.d (fr x)] st Q := by
  unfold sp_sign
  refine ⟨rfl, trivial, ?_⟩
  show if (decide ((0 : Int) < x.num)) = true then _ else _
  unfold sgn at h
  by_cases h1 : 0 < x
  · rw [if_pos (decide_eq_true ((num_pos_iff x).mpr h1))]
    rw [if_pos h1] at h
    exact tk h
  · rw [if_neg (by simp only [decide_eq_true_eq]; exact fun z => h1 ((num_pos_iff x).mp z))]
    rw [if_neg h1] at h
    refine ⟨trivial, ?_⟩
    show if (decide (x.num < 0)) = true then _ else _
    by_cases h2 : x < 0
    · rw [if_pos (decide_eq_true ((num_neg_iff x).mpr h2))]
      rw [if_pos h2] at h
      exact tk h
    · rw [if_neg (by simp only [decide_eq_true_eq]; exact fun z => h2 ((num_neg_iff x).mp z))]
      rw [if_neg h2] at h
      exact tk h
theorem compare_ok (hz : zb x + zb y < ZM) (h : Q (.d (.int (sgn (x - y)))) st) : sp_compare [.d (fr x), .d (fr y)] st Q := by
  unfold sp_compare
  refine ⟨rfl, subtract_ok hz (sign_ok (tk h))⟩
theorem sgn_lt (x y : Rat) : sgn (x - y) < 0 ↔ x < y := by
  unfold sgn
  grind
theorem sgn_le (x y : Rat) : sgn (x - y) ≤ 0 ↔ x ≤ y := by
  unfold sgn
  grind
theorem is_less_ok (hz : zb x + zb y < ZM) (h : Q (.d (.bl (decide (x < y)))) st) : sp_is_less [.d (fr x), .d (fr y)] st Q := by
  unfold sp_is_less
  refine ⟨rfl, compare_ok hz ⟨trivial, tk ?_⟩⟩
  have e : decide (sgn (x - y) < 0) = decide (x < y) := decide_eq_decide.mpr (sgn_lt x y)
  rw [← e] at h
  exact h
theorem is_at_most_ok (hz : zb x + zb y < ZM) (h : Q (.d (.bl (decide (x ≤ y)))) st) : sp_is_at_most [.d (fr x), .d (fr y)] st Q := by
  unfold sp_is_at_most
  refine ⟨rfl, compare_ok hz ⟨trivial, tk ?_⟩⟩
  have e : decide (sgn (x - y) ≤ 0) = decide (x ≤ y) := decide_eq_decide.mpr (sgn_le x y)
  rw [← e] at h
  exact h
end
end PG

set_option maxRecDepth 100000
set_option maxHeartbeats 4000000
namespace PG
open PySem PySem.Spec PyProof.Rows L2 RT
/-! loops by an invariant -/
theorem loop_inv {g : Tgt} {b : DS} {all : List Dt} {E : DEnds} (I : List Dt → M → Prop)
    (hs : ∀ x r m (K : M → Prop), (∀ m', I r m' → K m') → I (x :: r) m → tgD g (.d x) m fun m1 => b ⟨K, E.rt, E.nx, K⟩ m1) (hd : ∀ m, I [] m → E.nx m) :
    ∀ (xs : List Dt) (m : M), I xs m → dLoop g b all none E xs m
  | [], m, h => ⟨trivial, hd m h⟩
  | x :: r, m, h => ⟨trivial, hs x r m _ (fun m' h' => loop_inv I hs hd r m' h') h⟩
/-- over a range: by what is left of it -/
theorem range_inv {i : Nat} {b : DS} {all : List Dt} {E : DEnds} (I : Nat → Int → M → Prop)
    (hs : ∀ n lo m (K : M → Prop), (∀ m', I n (lo + 1) m' → K m') → I (n + 1) lo m → b ⟨K, E.rt, E.nx, K⟩ ⟨m.sl.set i (some (.d (.int lo))), m.st⟩) (hd : ∀ lo m, I 0 lo m → E.nx m) :
    ∀ (n : Nat) (lo : Int) (m : M), I n lo m → dLoop (.nm i) b all none E (rangeD lo n) m
  | 0, lo, m, h => ⟨trivial, hd lo m h⟩
  | n + 1, lo, m, h => ⟨trivial, hs n lo m _ (fun m' h' => range_inv I hs hd n (lo + 1) m' h') h⟩

/-! the law's own divisor: 400 turns -/
def eu : Nat → Nat → Nat → Nat
  | 0, x, _ => x
  | j + 1, x, y => if 0 < y then eu j y (x % y) else eu j x y
theorem eu_zero : ∀ (j x : Nat), eu j x 0 = x
  | 0, _ => rfl
  | j + 1, x => by
    unfold eu
    rw [if_neg (by omega), eu_zero j x]
theorem eu_gcd : ∀ (j x y : Nat), y < 2 ^ (j / 2) → eu j x y = Nat.gcd x y
  | 0, x, y, h => by
    have : y = 0 := by simpa using h
    subst this
    rw [eu_zero, Nat.gcd_zero_right]
  | 1, x, y, h => by
    have : y = 0 := by simpa using h
    subst this
    rw [eu_zero, Nat.gcd_zero_right]
  | j + 2, x, y, h => by
    by_cases hy : 0 < y
    · unfold eu
      rw [if_pos hy]
      have e1 : Nat.gcd x y = Nat.gcd y (x % y) := by rw [Nat.gcd_comm x y, Nat.gcd_rec y x, Nat.gcd_comm]
      rw [e1]
      by_cases hz : 0 < x % y
      · unfold eu
        rw [if_pos hz]
        have e2 : Nat.gcd y (x % y) = Nat.gcd (x % y) (y % (x % y)) := by rw [Nat.gcd_comm y (x % y), Nat.gcd_rec (x % y) y, Nat.gcd_comm]
        rw [e2]
        refine eu_gcd j _ _ ?_
        have h1 : x % y < y := Nat.mod_lt _ hy
        have h2 : y % (x % y) < x % y := Nat.mod_lt _ hz
        have h3 : y % (x % y) + (x % y) ≤ y := by
          have := Nat.div_add_mod y (x % y)
          have hq : 1 ≤ y / (x % y) := (Nat.le_div_iff_mul_le hz).mpr (by omega)
          have : (x % y) * 1 ≤ (x % y) * (y / (x % y)) := Nat.mul_le_mul_left _ hq
          omega
        have h4 : (j + 2) / 2 = j / 2 + 1 := by omega
        rw [h4, Nat.pow_succ] at h
        omega
      · have : x % y = 0 := by omega
        rw [this, eu_zero, Nat.gcd_zero_right]
    · have : y = 0 := by omega
      subst this
      rw [eu_zero, Nat.gcd_zero_right]
theorem divisor_ok {a b : Int} {st : List Cell} {Q : Vl → List Cell → Prop} (hb : b.natAbs < 2 ^ 200) (h : Q (.d (.int (Int.gcd a b : Int))) st) : sp__law_divisor [.d (.int a), .d (.int b)] st Q := by
  unfold sp__law_divisor
  refine ⟨rfl, ?_⟩
  show small62 400 ∧ dLoop (.nm 2) _ _ none _ (rangeD 0 400) ⟨[some (.d (.int (if a < 0 then -a else a))), some (.d (.int (if b < 0 then -b else b))), none], st⟩
  rw [abs_eq, abs_eq]
  refine ⟨⟨by decide, by decide⟩, range_inv (fun n lo m => ∃ (x y : Nat) (z : Option Vl), m = ⟨[some (.d (.int x)), some (.d (.int y)), z], st⟩ ∧ eu n x y = Int.gcd a b) ?_ ?_ 400 0 _ ⟨_, _, _, rfl, eu_gcd 400 _ _ hb⟩⟩
  · rintro n lo m K hK ⟨x, y, z, rfl, e⟩
    refine ⟨trivial, ?_⟩
    show if (decide ((0 : Int) < y)) = true then _ else _
    unfold eu at e
    by_cases hy : (0 : Int) < y
    · rw [if_pos (decide_eq_true hy)]
      rw [if_pos (by omega)] at e
      refine ⟨by omega, hK _ ⟨y, x % y, some (.d (.int lo)), ?_, e⟩⟩
      rw [Int.natCast_emod, ← Int.fmod_eq_emod_of_nonneg _ (by omega)]
      rfl
    · rw [if_neg (by simp; omega)]
      rw [if_neg (by omega)] at e
      exact hK _ ⟨x, y, some (.d (.int lo)), rfl, e⟩
  · rintro lo m ⟨x, y, z, rfl, e⟩
    have e' : x = Int.gcd a b := e
    rw [← e'] at h
    exact tk h

theorem pos_fr {n d : Int} (hd : 0 < d) : Dt.tup [.int (n.fdiv (Int.gcd n d : Int)), .int (d.fdiv (Int.gcd n d : Int))] = fr (Rat.divInt n d) := by
  have hg : (Int.gcd n d : Int) ≠ 0 := by
    have : Int.gcd n d ≠ 0 := fun e => by
      have := (Int.gcd_eq_zero_iff.mp e).2
      omega
    omega
  have hn : (Int.gcd n d : Int) ∣ n := Int.gcd_dvd_left ..
  have hd' : (Int.gcd n d : Int) ∣ d := Int.gcd_dvd_right ..
  have e1 : (Rat.divInt n d).num = n / Int.gcd n d := by rw [Rat.num_divInt, Int.gcd_comm, Int.sign_eq_one_of_pos hd, Int.one_mul]
  have e2 : (((Rat.divInt n d).den : Nat) : Int) = d / Int.gcd n d := by
    rw [Rat.den_divInt, if_neg (by omega), Int.natCast_ediv, Int.gcd_comm, ← sign_self, Int.sign_eq_one_of_pos hd, Int.one_mul]
  unfold fr
  rw [e1, e2]
  have q1 := sgn_div hg hn (.inl rfl)
  have q2 := sgn_div hg hd' (.inl rfl)
  rw [Int.one_mul, Int.one_mul] at q1 q2
  rw [q1, q2]
theorem lfr_ok {n d : Int} {st : List Cell} {Q : Vl → List Cell → Prop} (hd : d ≠ 0) (hz : d.natAbs < 2 ^ 200) (h : Q (.d (fr (Rat.divInt n d))) st) : sp__law_fr [.d (.int n), .d (.int d)] st Q := by
  unfold sp__law_fr
  refine ⟨rfl, trivial, ?_⟩
  show if (decide (d < 0)) = true then _ else _
  have go : ∀ n d : Int, 0 < d → d.natAbs < 2 ^ 200 → Q (.d (fr (Rat.divInt n d))) st → dSeq (dSet 2 (dCall PG.sp__law_divisor [] (dCons (dVar 0) (dCons (dVar 1) dNil)))) (dRet (dTup (dCons (dOp rDiv (dVar 0) (dVar 2)) (dCons (dOp rDiv (dVar 1) (dVar 2)) dNil)))) (endsOf false st.length Q) ⟨[some (.d (.int n)), some (.d (.int d)), none], st⟩ := fun n d hd hz h => by
    have hg : (Int.gcd n d : Int) ≠ 0 := by
      have : Int.gcd n d ≠ 0 := fun e => by
        have := (Int.gcd_eq_zero_iff.mp e).2
        omega
      omega
    refine divisor_ok hz ⟨hg, hg, lineN rfl, tk ?_⟩
    rw [← pos_fr hd] at h
    exact h
  by_cases hs : d < 0
  · rw [if_pos (decide_eq_true hs)]
    refine ⟨trivial, trivial, go (0 - n) (0 - d) (by omega) (by omega) ?_⟩
    rw [Int.zero_sub, Int.zero_sub, Rat.neg_divInt_neg]
    exact h
  · rw [if_neg (by simp; omega)]
    exact go n d (by omega) hz h

/-! the cells of a script, its digits -/
theorem atI_int {ns : List Int} {k : Int} (h0 : 0 ≤ k) (h1 : k < ns.length) : atI (ns.map Dt.int) k = some (.int (ns.getD k.toNat 0)) := by
  unfold atI ixN
  rw [if_pos h0, List.length_map, if_pos h1]
  show (ns.map Dt.int)[k.toNat]? = _
  have hk : k.toNat < ns.length := by omega
  rw [List.getElem?_map, List.getD_eq_getElem?_getD, List.getElem?_eq_getElem hk]
  rfl
theorem getD_mem {ns : List Int} {k : Nat} (h : k < ns.length) : ns.getD k 0 ∈ ns := by
  rw [List.getD_eq_getElem?_getD, List.getElem?_eq_getElem h]
  exact List.getElem_mem h
/-- a list of ints is read at a place -/
theorem ix_ints {ns : List Int} {k : Int} {P : Dt → Prop} (h0 : 0 ≤ k) (h1 : k < ns.length) (h : P (.int (ns.getD k.toNat 0))) : RT.rIx (.lst (ns.map .int)) (.int k) P := onO_mk (atI_int h0 h1) h
def Bits (ns : List Int) : Prop := ∀ z ∈ ns, Builtin.Int.intBits z ≤ 1048576
theorem cell_ok {ns : List Int} {k : Int} {st : List Cell} {Q : Vl → List Cell → Prop} (hb : Bits ns) (h0 : 0 ≤ k) (h : ∀ v : Int, v.natAbs.log2 ≤ 1048576 → Q (.d (.int v)) st) : sp__law_cell [.d (.lst (ns.map .int)), .d (.int k)] st Q := by
  unfold sp__law_cell
  refine ⟨rfl, trivial, ?_⟩
  show if (decide (k < ((ns.map Dt.int).length : Int))) = true then _ else _
  rw [List.length_map]
  by_cases hk : k < (ns.length : Int)
  · rw [if_pos (decide_eq_true hk)]
    refine ix_ints h0 hk (tk (h _ ?_))
    have := hb _ (getD_mem (ns := ns) (k := k.toNat) (by omega))
    unfold Builtin.Int.intBits at this
    split at this
    · rename_i e
      have e' : ns.getD k.toNat 0 = 0 := by simpa using e
      rw [e']
      simp
    · omega
  · rw [if_neg (by simp; omega)]
    exact tk (h 0 (by simp))
/-- digits -/
def Dg (ds : List Int) : Prop := ∀ d ∈ ds, 0 ≤ d ∧ d < 1000
theorem Dg.app {ds : List Int} (h : Dg ds) {x : Int} (h0 : 0 ≤ x) (h1 : x < 1000) : Dg (ds ++ [x]) := fun d hd => by
  rcases List.mem_append.mp hd with z | z
  · exact h d z
  · rw [List.mem_singleton] at z
    rw [z]
    exact ⟨h0, h1⟩
theorem fmod_bd (a : Int) {n : Int} (h : 0 < n) : 0 ≤ a.fmod n ∧ a.fmod n < n := ⟨Int.fmod_nonneg_of_pos a h, Int.fmod_lt_of_pos a h⟩
theorem map_app (ds : List Int) (x : Int) : ds.map Dt.int ++ [Dt.int x] = (ds ++ [x]).map Dt.int := by simp

theorem getElem_last {α : Type} (l : List α) (x : α) : (l ++ [x])[l.length]? = some x := by simp
theorem set_last {α : Type} (l : List α) (x y : α) : (l ++ [x]).set l.length y = l ++ [y] := by simp

theorem push_st {st : List Cell} {ds : List Int} {x : Int} : (st ++ [Cell.lst (ds.map Dt.int)]).set st.length (Cell.lst (ds.map Dt.int ++ [Dt.int x])) = st ++ [Cell.lst ((ds ++ [x]).map Dt.int)] := by
  rw [set_last, map_app]
theorem k1000 : (1000 : Int) ≠ 0 := by decide
theorem k997 : (997 : Int) ≠ 0 := by decide
theorem kMx : (2147483647 : Int) ≠ 0 := by decide
theorem small_lt {n : Nat} (h : n < 16777216) : n < sizeLine := by
  rw [sizeLine_eq]
  exact h

/-- a cut between two statements -/
theorem seq_mid {a b : DS} {E : DEnds} {m : M} (P : M → Prop) (h1 : ∀ K : M → Prop, (∀ m', P m' → K m') → a ⟨K, E.rt, E.bk, E.ct⟩ m) (h2 : ∀ m', P m' → b E m') : dSeq a b E m := h1 _ h2
theorem log2_small {v : Int} {n : Nat} (h0 : 0 ≤ v) (h : v < 2 ^ n) (hn : 0 < n) : v.natAbs.log2 < n := by
  by_cases hz : v.natAbs = 0
  · rw [hz]
    simpa using hn
  · refine (Nat.log2_lt hz).mpr ?_
    have : ((v.natAbs : Nat) : Int) < ((2 ^ n : Nat) : Int) := by
      rw [Int.natAbs_of_nonneg h0]
      push_cast
      exact h
    exact_mod_cast this
/-- where a script's digits come from -/
theorem digits_ok {ns : List Int} {a b : Int} {st : List Cell} {Q : Vl → List Cell → Prop} (hb : Bits ns) (h0 : 0 ≤ a) (h1 : a ≤ b) (h2 : b ≤ 100) (h : ∀ ds : List Int, Dg ds → ds.length ≤ 60 * (b - a).toNat → Q (.d (.lst (ds.map .int))) st) :
    sp__law_digits [.d (.lst (ns.map .int)), .d (.int a), .d (.int b)] st Q := by
  unfold sp__law_digits
  refine ⟨rfl, lineN rfl, ?_⟩
  -- for k in range(first, last)
  have e62 : small62 a ∧ small62 b := ⟨⟨by omega, by omega⟩, ⟨by omega, by omega⟩⟩
  refine ⟨e62, ?_⟩
  let S : List Int → Option Vl → Option Vl → Option Vl → Option Vl → M := fun ds z4 z5 z6 z7 => ⟨[some (.d (.lst (ns.map .int))), some (.d (.int a)), some (.d (.int b)), some (.c st.length), z4, z5, z6, z7], st ++ [.lst (ds.map .int)]⟩
  let I : Nat → Int → M → Prop := fun n lo m => ∃ (ds : List Int) (z4 z5 z6 z7 : Option Vl), m = S ds z4 z5 z6 z7 ∧ Dg ds ∧ a ≤ lo ∧ lo + n = b ∧ ds.length ≤ 60 * (lo - a).toNat
  refine range_inv I ?_ ?_ (b - a).toNat a _ ⟨[], none, none, none, none, rfl, (show Dg [] from fun d hd => nomatch hd), Int.le_refl _, by omega, Nat.zero_le _⟩
  · rintro n lo m K hK ⟨ds, z4, z5, z6, z7, rfl, hd, hlo, hn, hl⟩
    have hl' : ds.length ≤ 6000 := by omega
    refine cell_ok hb (by omega) fun v hv => ?_
    dsimp only
    refine seq_mid (fun m' => ∃ v : Int, m' = S ds (some (.d (.int lo))) (some (.d (.int v))) z6 z7 ∧ 0 ≤ v ∧ v.natAbs.log2 ≤ 1048580) (fun K' hK' => ?_) ?_
    · refine ⟨trivial, ?_⟩
      show if (decide (v < 0)) = true then _ else _
      by_cases hv0 : v < 0
      · rw [if_pos (decide_eq_true hv0)]
        refine ⟨?_, trivial, hK' _ ⟨1 - 2 * v, rfl, by omega, ?_⟩⟩
        · show (2 : Int).natAbs.log2 + v.natAbs.log2 < 67108864
          have : (2 : Int).natAbs.log2 = 1 := by decide
          omega
        · have e : (1 - 2 * v).natAbs = 1 + 2 * v.natAbs := by omega
          rw [e]
          have h1 := @log2_add_le 1 (2 * v.natAbs)
          have h2 := @log2_mul_le 2 v.natAbs
          have h3 : Nat.log2 2 = 1 := by decide
          have h4 : Nat.log2 1 = 0 := by decide
          omega
      · rw [if_neg (by simp; omega)]
        exact hK' _ ⟨v, rfl, by omega, by omega⟩
    · rintro m' ⟨v, rfl, hv0, hvb⟩
      refine ⟨⟨by decide, by decide, by decide⟩, trivial, ?_⟩
      show if (decide ((10 : Int) ^ 18 ≤ v)) = true then _ else _
      by_cases hbig : (10 : Int) ^ 18 ≤ v
      · rw [if_pos (decide_eq_true hbig)]
        refine ⟨⟨by decide, by decide⟩, ?_⟩
        refine range_inv (fun j l m => ∃ (ds' : List Int) (v : Int) (z : Option Vl), m = S ds' (some (.d (.int lo))) (some (.d (.int v))) z z7 ∧ Dg ds' ∧ ds'.length + j ≤ ds.length + 60) ?_ ?_ 60 0 _ ⟨ds, v, z6, rfl, hd, Nat.le_refl _⟩
        · rintro j l m K2 hK2 ⟨ds', v, z, rfl, hd', hl2⟩
          refine ⟨trivial, ?_⟩
          show if (decide ((0 : Int) < v)) = true then _ else _
          by_cases hvp : (0 : Int) < v
          · rw [if_pos (decide_eq_true hvp)]
            refine ⟨⟨_, getElem_last _ _⟩, k1000, onC_mk (getElem_last _ _) ⟨small_lt (by rw [List.length_map]; omega), k1000, ?_⟩⟩
            obtain ⟨b0, b1⟩ := fmod_bd v (n := 1000) (by decide)
            refine hK2 _ ⟨ds' ++ [v.fmod 1000], v.fdiv 1000, some (.d (.int l)), ?_, hd'.app b0 b1, by rw [List.length_append, List.length_singleton]; omega⟩
            exact congrArg (M.mk _) push_st
          · rw [if_neg (by simp; omega)]
            exact hK2 _ ⟨ds', v, some (.d (.int l)), rfl, hd', by omega⟩
        · rintro l m ⟨ds', v, z, rfl, hd', hl2⟩
          exact hK _ ⟨ds', _, _, _, _, rfl, hd', by omega, by omega, by omega⟩
      · rw [if_neg (by simp; omega)]
        have hv18 : v < 2 ^ 60 := by
          have : (10 : Int) ^ 18 < 2 ^ 60 := by decide
          omega
        have lv := log2_small hv0 hv18 (by decide)
        have llo := log2_small (v := lo) (n := 7) (by omega) (by omega) (by decide)
        refine ⟨?_, ?_, kMx, ?_⟩
        · show v.natAbs.log2 + (48271 : Int).natAbs.log2 < 67108864
          have : (48271 : Int).natAbs.log2 = 15 := by decide
          omega
        · show lo.natAbs.log2 + (69621 : Int).natAbs.log2 < 67108864
          have : (69621 : Int).natAbs.log2 = 16 := by decide
          omega
        refine ⟨⟨by decide, by decide⟩, ?_⟩
        obtain ⟨s0, s1⟩ := fmod_bd (v * 48271 + lo * 69621 + 11) (n := 2147483647) (by decide)
        refine range_inv (fun j l m => ∃ (ds' : List Int) (sd : Int) (z : Option Vl), m = S ds' (some (.d (.int lo))) (some (.d (.int v))) z (some (.d (.int sd))) ∧ Dg ds' ∧ ds'.length + j ≤ ds.length + 12 ∧ 0 ≤ sd ∧ sd < 2147483647 ∧ 0 ≤ l ∧ l + j = 12) ?_ ?_ 12 0 _ ⟨ds, _, z6, rfl, hd, Nat.le_refl _, s0, s1, by decide, by decide⟩
        · rintro j l m K2 hK2 ⟨ds', sd, z, rfl, hd', hl2, c0, c1, l0, l1⟩
          have lsd := log2_small (n := 31) c0 (by omega) (by decide)
          have ll := log2_small (v := l) (n := 4) l0 (by omega) (by decide)
          refine ⟨?_, ?_, kMx, ?_⟩
          · show sd.natAbs.log2 + (16807 : Int).natAbs.log2 < 67108864
            have : (16807 : Int).natAbs.log2 = 14 := by decide
            omega
          · show (7 : Int).natAbs.log2 + l.natAbs.log2 < 67108864
            have : (7 : Int).natAbs.log2 = 2 := by decide
            omega
          obtain ⟨t0, t1⟩ := fmod_bd (sd * 16807 + 7 * l + 1) (n := 2147483647) (by decide)
          refine ⟨⟨_, getElem_last _ _⟩, k997, k1000, onC_mk (getElem_last _ _) ⟨small_lt (by rw [List.length_map]; omega), ?_⟩⟩
          obtain ⟨b0, b1⟩ := fmod_bd (((sd * 16807 + 7 * l + 1).fmod 2147483647).fdiv 997) (n := 1000) (by decide)
          refine hK2 _ ⟨ds' ++ [(((sd * 16807 + 7 * l + 1).fmod 2147483647).fdiv 997).fmod 1000], _, some (.d (.int l)), ?_, hd'.app b0 b1, by rw [List.length_append, List.length_singleton]; omega, t0, t1, by omega, by omega⟩
          exact congrArg (M.mk _) push_st
        · rintro l m ⟨ds', sd, z, rfl, hd', hl2, _⟩
          exact hK _ ⟨ds', _, _, _, _, rfl, hd', by omega, by omega, by omega⟩
  · rintro lo m ⟨ds, z4, z5, z6, z7, rfl, hd, hlo, hn, hl⟩
    show if st.length < st.length then _ else onC (st ++ [Cell.lst (ds.map Dt.int)]) st.length _
    rw [if_neg (Nat.lt_irrefl _)]
    refine onC_mk (getElem_last _ _) ?_
    rw [if_neg (by decide)]
    show Q (.d (.lst (ds.map .int))) ((st ++ [Cell.lst (ds.map Dt.int)]).take st.length)
    rw [List.take_left]
    exact h ds hd (by omega)
end PG

set_option maxRecDepth 100000
set_option maxHeartbeats 4000000
namespace PG
open PySem PySem.Spec PyProof.Rows L2 RT
theorem onJ_mk {o : Option Nat} {P : Nat → Prop} {j : Nat} (e : o = some j) (h : P j) : onJ o P := by
  subst e
  exact h
theorem onV_d {m : M} {x : Dt} {P : Dt → Prop} (h : P x) : onV m (.d x) P := h
theorem rIx_mk {xs : List Dt} {k : Int} {z : Dt} {P : Dt → Prop} (e : atI xs k = some z) (h : P z) : RT.rIx (.lst xs) (.int k) P := onO_mk e h
/-- the box that is drawn from -/
def Bx (ds : List Int) (i : Nat) : Cell := .lst [.lst (ds.map .int), .int i]
theorem onV_c {sl : List (Option Vl)} {st : List Cell} {k : Nat} {xs : List Dt} {P : Dt → Prop} (e : st[k]? = some (.lst xs)) (h : P (.lst xs)) : onV ⟨sl, st⟩ (.c k) P := by
  unfold onV view
  simp only [e]
  exact h
theorem draw_ok {ds : List Int} {i k : Nat} {n : Int} {st : List Cell} {Q : Vl → List Cell → Prop} (hk : st[k]? = some (Bx ds i)) (hn : 0 < n) (h : ∀ r : Int, 0 ≤ r → r < n → Q (.d (.int r)) (st.set k (Bx ds (i + 1)))) :
    sp__law_draw [.c k, .d (.int n)] st Q := by
  have hlt : k < st.length := (List.getElem?_eq_some_iff.mp hk).1
  have hs : (st.set k (Bx ds (i + 1)))[k]? = some (Bx ds (i + 1)) := by simp [hlt]
  have hl : (st.set k (Bx ds (i + 1))).length = st.length := List.length_set
  unfold sp__law_draw
  refine ⟨rfl, ?_⟩
  refine onV_c hk ?_
  refine onC_mk hk ?_
  refine onJ_mk (j := 1) rfl ?_
  have e0 : ([Dt.lst (ds.map .int), Dt.int i].set 1 (Dt.int (i + 1))) = [Dt.lst (ds.map .int), Dt.int ((i + 1 : Nat) : Int)] := rfl
  dsimp only
  rw [e0]
  change dSeq (dIfS _ _ _) _ _ ⟨_, st.set k (Bx ds (i + 1))⟩
  refine onV_c hs ?_
  refine onV_d (rIx_mk (z := Dt.lst (ds.map .int)) rfl ?_)
  refine ⟨trivial, ?_⟩
  show if (decide ((i : Int) < ((ds.map Dt.int).length : Int))) = true then _ else _
  rw [List.length_map]
  by_cases hi : (i : Int) < (ds.length : Int)
  · rw [if_pos (decide_eq_true hi)]
    refine onV_c hs ?_
    refine onV_d (rIx_mk (z := Dt.lst (ds.map .int)) rfl ?_)
    refine ix_ints (ns := ds) (k := (i : Int)) (by omega) (by omega) ?_
    refine ⟨by show n ≠ 0; omega, ?_⟩
    obtain ⟨b0, b1⟩ := fmod_bd (ds.getD (i : Int).toNat 0) hn
    have := h _ b0 b1
    rw [← hl]
    exact tk this
  · rw [if_neg (by simp; omega)]
    rw [← hl]
    have := h 0 (Int.le_refl 0) hn
    exact tk this
theorem zb_small {n d : Int} {b : Nat} (hd : 0 < d) (h1 : n.natAbs < 2 ^ b) (h2 : d.natAbs < 2 ^ b) (hb : 0 < b) : zb (Rat.divInt n d) ≤ b + 2 := by
  have h := zb_divInt (n := n) (d := d) (by omega)
  have l : ∀ z : Nat, z < 2 ^ b → z.log2 ≤ b := fun z hz => by
    by_cases e : z = 0
    · rw [e]
      simp
    · have := (Nat.log2_lt e).mpr hz
      omega
  have := l _ h1
  have := l _ h2
  omega
theorem wide_ok {ds : List Int} {i k : Nat} {st : List Cell} {Q : Vl → List Cell → Prop} (hk : st[k]? = some (Bx ds i)) (h : ∀ q : Rat, zb q ≤ 20 → Q (.d (fr q)) (st.set k (Bx ds (i + 4)))) :
    sp__law_wide [.c k] st Q := by
  have hlt : k < st.length := (List.getElem?_eq_some_iff.mp hk).1
  have hs : ∀ c : Cell, (st.set k c)[k]? = some c := fun c => by simp [hlt]
  have hl : ∀ c : Cell, (st.set k c).length = st.length := fun c => List.length_set
  unfold sp__law_wide
  refine ⟨rfl, draw_ok hk (by decide) fun a a0 a1 => ?_⟩
  refine draw_ok (hs _) (by decide) fun b b0 b1 => ?_
  rw [List.set_set]
  have la := log2_small (n := 10) a0 (by omega) (by decide)
  have lb := log2_small (n := 6) b0 (by omega) (by decide)
  refine ⟨mulok (by unfold ZM; omega), trivial, ?_⟩
  refine draw_ok (hs _) (by decide) fun c c0 c1 => ?_
  rw [List.set_set]
  refine draw_ok (hs _) (by decide) fun d d0 d1 => ?_
  rw [List.set_set]
  have lc := log2_small (n := 6) c0 (by omega) (by decide)
  have ld := log2_small (n := 6) d0 (by omega) (by decide)
  have hab : a * b ≤ 999 * 39 := Int.mul_le_mul (by omega) (by omega) b0 (by decide)
  have hab0 : 0 ≤ a * b := Int.mul_nonneg a0 b0
  have hcd : c * d ≤ 59 * 59 := Int.mul_le_mul (by omega) (by omega) d0 (by decide)
  have hcd0 : 0 ≤ c * d := Int.mul_nonneg c0 d0
  refine ⟨mulok (by unfold ZM; omega), ?_⟩
  refine lfr_ok (by omega) (by omega) ?_
  rw [← hl (Bx ds (i + 4))]
  have := h (Rat.divInt (a * b - 300) (1 + c * d)) (zb_small (b := 18) (by omega) (by omega) (by omega) (by decide))
  exact tk this
theorem fr_gcd (x : Rat) : Int.gcd x.num x.den = 1 := x.reduced
theorem eqD_int {a b : Int} : eqD (.int a) (.int b) = decide (a = b) := by
  show (a == b) = _
  rw [Bool.eq_iff_iff]
  simp
theorem isfr_ok {x : Rat} {st : List Cell} {Q : Vl → List Cell → Prop} (hz : x.den < 2 ^ 200) (h : Q (.d (.bl true)) st) : sp__law_is_fr [.d (fr x)] st Q := by
  unfold sp__law_is_fr
  refine ⟨rfl, rfl, rfl, ?_⟩
  have hp : (0 : Int) < x.den := by
    have := x.den_pos
    omega
  refine ⟨trivial, ?_⟩
  show if (decide ((0 : Int) < x.den)) = true then _ else _
  rw [if_pos (decide_eq_true hp)]
  refine divisor_ok (by rw [Int.natAbs_natCast]; exact hz) ⟨rfl, rfl, ?_⟩
  rw [fr_gcd]
  exact tk h
theorem lis_ok {x : Rat} {n d : Int} {st : List Cell} {Q : Vl → List Cell → Prop} (hz : x.den < 2 ^ 200) (h1 : MulOk x.num d) (h2 : MulOk n x.den) (he : x.num * d = n * x.den) (h : Q (.d (.bl true)) st) : sp__law_is [.d (fr x), .d (.int n), .d (.int d)] st Q := by
  unfold sp__law_is
  refine ⟨rfl, isfr_ok hz ?_⟩
  refine ⟨h1, h2, rfl, rfl, tk ?_⟩
  rw [eqD_int, decide_eq_true he]
  exact h
end PG

set_option maxRecDepth 100000
set_option maxHeartbeats 4000000
namespace PG
open PySem PySem.Spec PyProof.Rows L2 RT
section
variable {x y : Rat} {st : List Cell} {Q : Vl → List Cell → Prop}
theorem absolute_ok (h : Q (.d (fr (if x < 0 then -x else x))) st) : sp_absolute [.d (fr x)] st Q := by
  unfold sp_absolute
  refine ⟨rfl, lineN rfl, tk ?_⟩
  have e : fr (if x < 0 then -x else x) = .tup [.int (if x.num < 0 then -x.num else x.num), .int x.den] := by
    unfold fr
    by_cases hx : x < 0
    · rw [if_pos hx, if_pos ((num_neg_iff x).mpr hx), Rat.neg_num, Rat.neg_den]
    · rw [if_neg hx, if_neg (fun z => hx ((num_neg_iff x).mp z))]
  rw [e] at h
  exact h
theorem less_iff (x y : Rat) : x.num * y.den < y.num * x.den ↔ x < y := (Rat.lt_iff x y).symm
theorem less_ok (hz : zb x + zb y < ZM) (h : Q (.d (.bl (decide (x < y)))) st) : sp__law_less [.d (fr x), .d (fr y)] st Q := by
  unfold sp__law_less
  refine ⟨rfl, mk_nn (zb_num x) (dn y) hz, mk_nn (zb_num y) (dn x) (by omega), trivial, tk ?_⟩
  have e : decide (x.num * y.den < y.num * x.den) = decide (x < y) := decide_eq_decide.mpr (less_iff x y)
  rw [← e] at h
  exact h
end
theorem zb_lt {x : Rat} {n : Nat} (h : zb x ≤ n) : x.num.natAbs < 2 ^ n ∧ x.den < 2 ^ n := by
  have h1 := zb_num x
  have h2 := zb_den x
  exact ⟨Nat.lt_of_lt_of_le Nat.lt_log2_self (Nat.pow_le_pow_right (by decide) (by omega)), Nat.lt_of_lt_of_le Nat.lt_log2_self (Nat.pow_le_pow_right (by decide) (by omega))⟩
theorem eq_of_val {x : Rat} {n d : Int} (hd : d ≠ 0) (h : x = Rat.divInt n d) : x.num * d = n * x.den := by
  have := (Rat.divInt_eq_divInt_iff (den_pos x) hd).mp ((Rat.num_divInt_den x).trans h)
  rw [this]
def Sz (n : Int) (b : Nat) : Prop := n.natAbs < 2 ^ b
theorem sz_mul {m n : Int} {a b : Nat} (h1 : Sz m a) (h2 : Sz n b) : Sz (m * n) (a + b) := by
  unfold Sz at *
  rw [Int.natAbs_mul, Nat.pow_add]
  exact Nat.mul_lt_mul'' h1 h2
theorem sz_le {m : Int} {a b : Nat} (h1 : Sz m a) (h : a ≤ b) : Sz m b := Nat.lt_of_lt_of_le h1 (Nat.pow_le_pow_right (by decide) h)
theorem sz_add {m n : Int} {a b : Nat} (h1 : Sz m a) (h2 : Sz n b) : Sz (m + n) (a + b + 1) := by
  have h3 : Sz m (a + b) := sz_le h1 (by omega)
  have h4 : Sz n (a + b) := sz_le h2 (by omega)
  unfold Sz at *
  rw [Nat.pow_succ]
  have := Int.natAbs_add_le m n
  omega
theorem sz_neg {m : Int} {a : Nat} (h1 : Sz m a) : Sz (-m) a := by
  unfold Sz at *
  rw [Int.natAbs_neg]
  exact h1
theorem sz_sub {m n : Int} {a b : Nat} (h1 : Sz m a) (h2 : Sz n b) : Sz (m - n) (a + b + 1) := by
  rw [Int.sub_eq_add_neg]
  exact sz_add h1 (sz_neg h2)
theorem sz_num {x : Rat} {n : Nat} (h : zb x ≤ n) : Sz x.num n := (zb_lt h).1
theorem sz_den {x : Rat} {n : Nat} (h : zb x ≤ n) : Sz x.den n := by
  unfold Sz
  rw [Int.natAbs_natCast]
  exact (zb_lt h).2
theorem sz_lg {m : Int} {a : Nat} (h : Sz m a) : m.natAbs.log2 ≤ a := by
  by_cases e : m.natAbs = 0
  · rw [e]
    simp
  · have := (Nat.log2_lt e).mpr h
    omega
theorem sz_mk {m n : Int} {a b : Nat} (h1 : Sz m a) (h2 : Sz n b) (h : a + b < ZM) : MulOk m n := by
  have := sz_lg h1
  have := sz_lg h2
  exact mulok (by omega)
theorem lis_of {x : Rat} {n d : Int} {a : Nat} {st : List Cell} {Q : Vl → List Cell → Prop} (hd : d ≠ 0) (hx : x = Rat.divInt n d) (hz : zb x ≤ 200) (h1 : Sz n a) (h2 : Sz d a) (ha : a < 1000) (h : Q (.d (.bl true)) st) :
    sp__law_is [.d (fr x), .d (.int n), .d (.int d)] st Q := by
  refine lis_ok (zb_lt hz).2 (sz_mk (sz_num hz) h2 (by unfold ZM; omega)) (sz_mk h1 (sz_den hz) (by unfold ZM; omega)) (eq_of_val hd hx) h
theorem zm {a b : Nat} (h : a + b < 60000000) : a + b < ZM := h

theorem szn {n : Int} {a : Nat} (h : Nat.blt n.natAbs (2 ^ a) = true) : Sz n a := Nat.le_of_ble_eq_true h
theorem add_val (x y : Rat) : x + y = Rat.divInt (x.num * y.den + y.num * x.den) (x.den * y.den) := by
  rw [← Int.natCast_mul, Rat.divInt_ofNat, ← Rat.add_def']
theorem mul_val (x y : Rat) : x * y = Rat.divInt (x.num * y.num) (x.den * y.den) := by
  rw [← Int.natCast_mul, Rat.divInt_ofNat, ← Rat.mul_def']
theorem sub_val (x y : Rat) : x - y = Rat.divInt (x.num * y.den - y.num * x.den) (x.den * y.den) := by
  rw [Rat.sub_eq_add_neg, add_val, Rat.neg_num, Rat.neg_den, Int.neg_mul, ← Int.sub_eq_add_neg]
theorem neg_val (x : Rat) : -x = Rat.divInt (0 - x.num) x.den := by
  rw [Int.zero_sub, ← Rat.neg_num, ← Rat.neg_den, Rat.num_divInt_den]
/-- a guard that lets through -/
theorem guard_st {c : DT} {t b : DS} {E : DEnds} {m : M} (m' : M) (hc : ∀ K : Bool → M → Prop, K false m' → c m K) (h : b E m') : dSeq (dIfS c t dNext) b E m := hc _ h
theorem set_st {i : Nat} {t : DE} {b : DS} {E : DEnds} {m : M} (v : Vl) (m' : M) (hc : ∀ K : Vl → M → Prop, K v m' → t m K) (h : b E ⟨m'.sl.set i (some v), m'.st⟩) : dSeq (dSet i t) b E m := hc _ h
theorem ret_st {t : DE} {kp : Bool} {Q : Vl → List Cell → Prop} {n : Nat} {m m' : M} (d : Dt) (hc : ∀ K : Vl → M → Prop, K (.d d) m' → t m K) (h : Q (.d d) (m'.st.take n)) : dRet t (endsOf kp n Q) m := hc _ h
theorem div_val (x : Rat) {y : Rat} (hy : y ≠ 0) : x / y = Rat.divInt (x.num * y.den) (x.den * y.num) := by
  rw [Rat.div_def]
  have e1 : y⁻¹ = Rat.divInt y.den y.num := by
    have := Rat.inv_divInt y.num y.den
    rw [Rat.num_divInt_den] at this
    exact this
  rw [e1]
  conv => lhs; rw [← Rat.num_divInt_den x]
  rw [Rat.divInt_mul_divInt]
theorem zb_of {q : Rat} {n d : Int} {a : Nat} (hd : d ≠ 0) (hv : q = Rat.divInt n d) (h1 : Sz n a) (h2 : Sz d a) : zb q ≤ a + 2 := by
  have := zb_divInt (n := n) hd
  have := sz_lg h1
  have := sz_lg h2
  rw [hv]
  omega
theorem eqD_bl {a b : Bool} : eqD (.bl a) (.bl b) = (a == b) := rfl
theorem law_k00 : LawD 63 sp_law := fun ns hl hb => by
  unfold sp_law
  refine ⟨rfl, ?_⟩
  refine digits_ok hb (by decide) (by decide) (by decide) fun ds hd hdl => ?_
  refine ⟨lineN rfl, ?_⟩
  refine wide_ok (k := 0) (i := 0) (ds := ds) rfl fun x hx => ?_
  refine wide_ok (k := 0) (i := 4) (ds := ds) rfl fun y hy => ?_
  have mk : ∀ {m n : Int} {a b : Nat}, Sz m a → Sz n b → a + b < ZM → MulOk m n := fun h1 h2 h => sz_mk h1 h2 h
  have nx := sz_num hx
  have dx := sz_den hx
  have ny := sz_num hy
  have dy := sz_den hy
  let S : Option Vl → Option Vl → M := fun z4 z5 => ⟨[some (.d (.lst (ns.map .int))), some (.c 0), some (.d (fr x)), some (.d (fr y)), z4, z5], [Bx ds 8]⟩
  dsimp only
  refine guard_st (S none none) (fun K hK => ?_) ?_
  · refine add_ok (zm (by omega)) ?_
    refine ⟨mk nx dy (zm (by omega)), mk ny dx (zm (by omega)), mk dx dy (zm (by omega)), ?_⟩
    refine lis_of (mul_nn x y) (add_val x y) (Nat.le_trans (zb_add x y) (by omega)) (sz_add (sz_mul nx dy) (sz_mul ny dx)) (sz_le (sz_mul dx dy) (by omega)) (by omega) ?_
    refine multiply_ok (zm (by omega)) ?_
    refine ⟨mk nx ny (zm (by omega)), mk dx dy (zm (by omega)), ?_⟩
    exact lis_of (mul_nn x y) (mul_val x y) (Nat.le_trans (zb_mul x y) (by omega)) (sz_mul nx ny) (sz_mul dx dy) (by omega) hK
  refine guard_st (S none none) (fun K hK => ?_) ?_
  · refine subtract_ok (zm (by omega)) ?_
    refine ⟨mk nx dy (zm (by omega)), mk ny dx (zm (by omega)), trivial, mk dx dy (zm (by omega)), ?_⟩
    refine lis_of (mul_nn x y) (sub_val x y) (Nat.le_trans (zb_sub x y) (by omega)) (sz_sub (sz_mul nx dy) (sz_mul ny dx)) (sz_le (sz_mul dx dy) (by omega)) (by omega) ?_
    refine negative_ok ⟨trivial, ?_⟩
    exact lis_of (den_pos x) (neg_val x) (by rw [zb_neg]; omega) (sz_sub (szn (a := 20) rfl) nx) (sz_le dx (by omega)) (by omega) hK
  refine seq_mid (fun m => ∃ z4, m = S z4 none) (fun K hK => ?_) ?_
  · refine ⟨rfl, rfl, ?_⟩
    show if (!eqD (.int y.num) (.int 0)) = true then _ else _
    rw [eqD_int]
    by_cases hy0 : y = 0
    · subst hy0
      exact hK _ ⟨none, rfl⟩
    have hn0 := num_nz hy0
    rw [decide_eq_false hn0]
    have hv := div_val x hy0
    have hdn := Int.mul_ne_zero (den_pos x) hn0
    have hz := zb_of hdn hv (sz_mul nx dy) (sz_mul dx ny)
    refine divide_ok hy0 (zm (by omega)) ?_
    have nz := sz_num hz
    have dz := sz_den hz
    refine isfr_ok (zb_lt (Nat.le_trans hz (by decide))).2 ?_
    refine ⟨mk nz dx (zm (by omega)), mk (sz_mul nz dx) ny (zm (by omega)), mk nx dy (zm (by omega)), mk (sz_mul nx dy) dz (zm (by omega)), rfl, rfl, ?_⟩
    show if (!eqD (.int ((x / y).num * x.den * y.num)) (.int (x.num * y.den * (x / y).den))) = true then _ else _
    have e1 := eq_of_val hdn hv
    rw [← Int.mul_assoc] at e1
    rw [eqD_int, decide_eq_true e1]
    refine ⟨mk nx (szn (a := 3) rfl) (zm (by omega)), mk ny (szn (a := 3) rfl) (zm (by omega)), ?_⟩
    have h4 : y.num * 4 ≠ 0 := by omega
    have h2 : y.num * 2 ≠ 0 := by omega
    refine fraction_ok h4 ?_
    refine ⟨mk nx (szn (a := 3) rfl) (zm (by omega)), mk ny (szn (a := 3) rfl) (zm (by omega)), ?_⟩
    have ev : Rat.divInt (x.num * 6) (y.num * 4) = Rat.divInt (x.num * 3) (y.num * 2) := by
      rw [Rat.divInt_eq_divInt_iff h4 h2]
      grind
    refine lis_of h2 ev (Nat.le_trans (zb_of h2 ev (sz_mul nx (szn (n := 3) (a := 3) rfl)) (sz_mul ny (szn (n := 2) (a := 3) rfl))) (by decide)) (sz_mul nx (szn (n := 3) (a := 3) rfl)) (sz_mul ny (szn (n := 2) (a := 3) rfl)) (by decide) ?_
    exact hK _ ⟨_, rfl⟩
  · rintro _ ⟨z4, rfl⟩
    have hxy : zb x + zb y < ZM := zm (by omega)
    have hyx : zb y + zb x < ZM := zm (by omega)
    refine set_st (.d (.int 0)) (S z4 none) (fun K hK => hK) ?_
    refine seq_mid (fun m => m = S z4 (some (.d (.int (if x < y then -1 else 0))))) (fun K hK => ?_) ?_
    · refine less_ok hxy ?_
      show if (decide (x < y)) = true then _ else _
      by_cases h : x < y
      · rw [if_pos (decide_eq_true h)]
        refine hK _ ?_
        rw [if_pos h]
        rfl
      · rw [if_neg (by simpa using h)]
        refine hK _ ?_
        rw [if_neg h]
        rfl
    rintro _ rfl
    refine seq_mid (fun m => m = S z4 (some (.d (.int (sgn (x - y)))))) (fun K hK => ?_) ?_
    · refine less_ok hyx ?_
      show if (decide (y < x)) = true then _ else _
      by_cases h : y < x
      · rw [if_pos (decide_eq_true h)]
        refine hK _ ?_
        have : sgn (x - y) = 1 := by
          unfold sgn
          grind
        rw [this]
        rfl
      · rw [if_neg (by simpa using h)]
        refine hK _ ?_
        have : (if x < y then (-1 : Int) else 0) = sgn (x - y) := by
          unfold sgn
          grind
        rw [this]
    rintro _ rfl
    refine guard_st (S z4 (some (.d (.int (sgn (x - y)))))) (fun K hK => ?_) ?_
    · refine compare_ok hxy ⟨rfl, rfl, ?_⟩
      show if (!eqD (.int (sgn (x - y))) (.int (sgn (x - y)))) = true then _ else _
      rw [eqD_int, decide_eq_true rfl]
      refine is_less_ok hxy ⟨trivial, rfl, rfl, ?_⟩
      show if (!eqD (.bl (decide (x < y))) (.bl (decide (sgn (x - y) < 0)))) = true then _ else _
      rw [decide_eq_decide.mpr (sgn_lt x y), eqD_bl, beq_self_eq_true]
      refine is_at_most_ok hxy ⟨trivial, rfl, rfl, ?_⟩
      show K (!eqD (.bl (decide (x ≤ y))) (.bl (decide (sgn (x - y) < 1)))) _
      have : decide (sgn (x - y) < 1) = decide (x ≤ y) := decide_eq_decide.mpr (Iff.trans (by omega) (sgn_le x y))
      rw [this, eqD_bl, beq_self_eq_true]
      exact hK
    refine guard_st (S z4 (some (.d (.int (sgn (x - y)))))) (fun K hK => ?_) ?_
    · refine sign_ok ⟨?_, rfl, rfl, ?_⟩
      · show MulOk (sgn x) (if x.num < 0 then -x.num else x.num)
        rw [abs_eq]
        refine mk (a := 3) ?_ (b := 20) ?_ (by unfold ZM; decide)
        · unfold sgn
          split
          · exact szn rfl
          · split <;> exact szn rfl
        · unfold Sz
          rw [Int.natAbs_natCast]
          exact nx
      show if (!eqD (.int (sgn x * (if x.num < 0 then -x.num else x.num))) (.int x.num)) = true then _ else _
      have e : sgn x * (if x.num < 0 then -x.num else x.num) = x.num := by
        have h1 := num_neg_iff x
        have h2 := num_pos_iff x
        unfold sgn
        grind
      rw [e, eqD_int, decide_eq_true rfl]
      refine absolute_ok ?_
      refine lis_of (a := 20) (den_pos x) ?_ ?_ ?_ dx (by decide) hK
      · split
        · rename_i h
          show -x = Rat.divInt (if x.num < 0 then -x.num else x.num) x.den
          rw [if_pos ((num_neg_iff x).mpr h), ← Rat.neg_num, ← Rat.neg_den, Rat.num_divInt_den]
        · rename_i h
          show x = Rat.divInt (if x.num < 0 then -x.num else x.num) x.den
          rw [if_neg (fun z => h ((num_neg_iff x).mp z)), Rat.num_divInt_den]
      · split
        · rw [zb_neg]
          omega
        · omega
      · split
        · exact sz_neg nx
        · exact nx
    refine ret_st (m' := S z4 (some (.d (.int (sgn (x - y)))))) (.bl true) (fun K hK => ?_) rfl
    refine ⟨mk nx (szn (a := 5) rfl) (zm (by omega)), mk ny (szn (a := 5) rfl) (zm (by omega)), ?_⟩
    refine gcd_ok ?_
    refine divisor_ok (Nat.lt_of_lt_of_le ny (Nat.pow_le_pow_right (by decide) (by decide))) ?_
    have hg : Int.gcd (x.num * 12) (y.num * 12) = 12 * Int.gcd x.num y.num := by
      rw [Int.gcd_mul_right, Nat.mul_comm]
      rfl
    refine ⟨?_, rfl, rfl, ?_⟩
    · refine mk (a := 5) (b := 40) (szn rfl) ?_ (by unfold ZM; decide)
      unfold Sz
      rw [Int.natAbs_natCast]
      by_cases e : x.num = 0
      · rw [e, Int.gcd_zero_left]
        exact Nat.lt_of_lt_of_le ny (Nat.pow_le_pow_right (by decide) (by decide))
      · exact Nat.lt_of_lt_of_le (Nat.lt_of_le_of_lt (Int.gcd_le_natAbs_left _ e) nx) (Nat.pow_le_pow_right (by decide) (by decide))
    · rw [hg, eqD_int, decide_eq_true (by push_cast; rfl)]
      exact hK
end PG

set_option maxRecDepth 100000
set_option maxHeartbeats 4000000
namespace PG
open PySem PySem.Spec PyProof.Rows L2 RT
/-! equality of plain data -/
mutual
theorem eqv_self : ∀ x : Dt, PyData.eqv (toPy x) (toPy x) = true
  | .non => by simp [toPy, PyData.eqv]
  | .bl b => by simp [toPy, PyData.eqv]
  | .int i => by simp [toPy, PyData.eqv]
  | .str s => by simp [toPy, PyData.eqv]
  | .tup ds => by
    simp only [toPy, PyData.eqv]
    exact eqvs_self ds
  | .lst ds => by
    simp only [toPy, PyData.eqv]
    exact eqvs_self ds
theorem eqvs_self : ∀ ds : List Dt, PyData.eqvAll (toPys ds) (toPys ds) = true
  | [] => by simp [toPys, PyData.eqvAll]
  | d :: ds => by
    simp only [toPys, PyData.eqvAll, eqv_self d, eqvs_self ds, Bool.and_self]
end
theorem eqD_self (x : Dt) : eqD x x = true := eqv_self x
theorem neD_self (x : Dt) : (!eqD x x) = false := by rw [eqD_self]; rfl
/-! no truth values in it -/
mutual
def nb : Dt → Bool
  | .bl _ => false
  | .tup ds => nbs ds
  | .lst ds => nbs ds
  | .non => true
  | .int _ => true
  | .str _ => true
def nbs : List Dt → Bool
  | [] => true
  | d :: ds => nb d && nbs ds
end
mutual
theorem eqv_eq : ∀ x y : Dt, nb x = true → nb y = true → PyData.eqv (toPy x) (toPy y) = true → x = y
  | .bl _, _, h, _, _ => by simp [nb] at h
  | _, .bl _, _, h, _ => by simp [nb] at h
  | .non, .non, _, _, _ => rfl
  | .int i, .int j, _, _, h => by
    simp [toPy, PyData.eqv] at h
    rw [h]
  | .str i, .str j, _, _, h => by
    simp [toPy, PyData.eqv] at h
    rw [h]
  | .tup xs, .tup ys, h1, h2, h => by
    simp only [nb] at h1 h2
    simp only [toPy, PyData.eqv] at h
    rw [eqvs_eq xs ys h1 h2 h]
  | .lst xs, .lst ys, h1, h2, h => by
    simp only [nb] at h1 h2
    simp only [toPy, PyData.eqv] at h
    rw [eqvs_eq xs ys h1 h2 h]
  | .non, .int _, _, _, h | .non, .str _, _, _, h | .non, .tup _, _, _, h | .non, .lst _, _, _, h => by simp [toPy, PyData.eqv] at h
  | .int _, .non, _, _, h | .int _, .str _, _, _, h | .int _, .tup _, _, _, h | .int _, .lst _, _, _, h => by simp [toPy, PyData.eqv] at h
  | .str _, .non, _, _, h | .str _, .int _, _, _, h | .str _, .tup _, _, _, h | .str _, .lst _, _, _, h => by simp [toPy, PyData.eqv] at h
  | .tup _, .non, _, _, h | .tup _, .int _, _, _, h | .tup _, .str _, _, _, h | .tup _, .lst _, _, _, h => by simp [toPy, PyData.eqv] at h
  | .lst _, .non, _, _, h | .lst _, .int _, _, _, h | .lst _, .str _, _, _, h | .lst _, .tup _, _, _, h => by simp [toPy, PyData.eqv] at h
theorem eqvs_eq : ∀ xs ys : List Dt, nbs xs = true → nbs ys = true → PyData.eqvAll (toPys xs) (toPys ys) = true → xs = ys
  | [], [], _, _, _ => rfl
  | [], _ :: _, _, _, h => by simp [toPys, PyData.eqvAll] at h
  | _ :: _, [], _, _, h => by simp [toPys, PyData.eqvAll] at h
  | x :: xs, y :: ys, h1, h2, h => by
    simp only [nbs, Bool.and_eq_true] at h1 h2
    simp only [toPys, PyData.eqvAll, Bool.and_eq_true] at h
    rw [eqv_eq x y h1.1 h2.1 h.1, eqvs_eq xs ys h1.2 h2.2 h.2]
end
theorem eqD_iff {x y : Dt} (h1 : nb x = true) (h2 : nb y = true) : eqD x y = true ↔ x = y := ⟨eqv_eq x y h1 h2, fun e => e ▸ eqD_self x⟩
/-! what == compares -/
def Sh (n : Nat) (d : Dt) : Prop := (toPy d).canLay0 = true ∧ (toPy d).depth ≤ n
theorem sh_ok {n : Nat} {d : Dt} (h : Sh n d) (hn : Nat.ble n 64 = true := by rfl) : shD d := by
  unfold shD SeqAt.shaped
  rw [h.1, decide_eq_true (Nat.le_trans h.2 (Nat.le_of_ble_eq_true hn))]
  rfl
theorem sh_le {m n : Nat} {d : Dt} (h : Sh m d) (hn : m ≤ n) : Sh n d := ⟨h.1, Nat.le_trans h.2 hn⟩
theorem canLays : ∀ {ds : List Dt}, (∀ d ∈ ds, (toPy d).canLay0 = true) → PyData.canLayAll0 (toPys ds) = true
  | [], _ => by simp [toPys, PyData.canLayAll0]
  | d :: ds, h => by
    simp only [toPys, PyData.canLayAll0, h d List.mem_cons_self, canLays fun x hx => h x (List.mem_cons_of_mem _ hx), Bool.and_self]
theorem depths : ∀ {n : Nat} {ds : List Dt}, (∀ d ∈ ds, (toPy d).depth ≤ n) → PyData.depthAll (toPys ds) ≤ n
  | n, [], _ => by simp [toPys, PyData.depthAll]
  | n, d :: ds, h => by
    have h1 := h d List.mem_cons_self
    have h2 := depths (n := n) (ds := ds) fun x hx => h x (List.mem_cons_of_mem _ hx)
    simp only [toPys, PyData.depthAll]
    omega
theorem sh_tup {n : Nat} {ds : List Dt} (h : ∀ d ∈ ds, Sh n d) : Sh (n + 1) (.tup ds) := by
  constructor
  · simp only [toPy, PyData.canLay0]
    exact canLays fun d hd => (h d hd).1
  · simp only [toPy, PyData.depth]
    have := depths (n := n) (ds := ds) fun d hd => (h d hd).2
    omega
theorem sh_lst {n : Nat} {ds : List Dt} (h : ∀ d ∈ ds, Sh n d) : Sh (n + 1) (.lst ds) := by
  constructor
  · simp only [toPy, PyData.canLay0]
    exact canLays fun d hd => (h d hd).1
  · simp only [toPy, PyData.depth]
    have := depths (n := n) (ds := ds) fun d hd => (h d hd).2
    omega
theorem sh_int {i : Int} {n : Nat} : Sh n (.int i) := ⟨rfl, Nat.zero_le _⟩
theorem sh_non {n : Nat} : Sh n .non := ⟨rfl, Nat.zero_le _⟩
theorem sh_bl {b : Bool} {n : Nat} : Sh n (.bl b) := ⟨rfl, Nat.zero_le _⟩
theorem sh_str {s : Str} {n : Nat} (h : PyData.canLay0 (.str s) = true) : Sh n (.str s) := ⟨by simp only [toPy]; exact h, by simp [toPy, PyData.depth]⟩
theorem all_nil {P : Dt → Prop} : ∀ d ∈ ([] : List Dt), P d := fun _ h => nomatch h
theorem all_cons {P : Dt → Prop} {x : Dt} {r : List Dt} (h1 : P x) (h2 : ∀ d ∈ r, P d) : ∀ d ∈ x :: r, P d := fun d hd => by
  rcases List.mem_cons.mp hd with e | e
  · rw [e]
    exact h1
  · exact h2 d e
theorem all_map {α : Type} {P : Dt → Prop} {f : α → Dt} {l : List α} (h : ∀ a ∈ l, P (f a)) : ∀ d ∈ l.map f, P d := fun d hd => by
  obtain ⟨a, ha, rfl⟩ := List.mem_map.mp hd
  exact h a ha
theorem sh_fr {q : Rat} : Sh 1 (fr q) := sh_tup (all_cons sh_int (all_cons sh_int all_nil))
/-- a fraction or None -/
def ofr : Option Rat → Dt
  | none => .non
  | some q => fr q
theorem sh_ofr {o : Option Rat} : Sh 1 (ofr o) := by
  cases o with
  | none => exact sh_non
  | some q => exact sh_fr
theorem nb_fr (q : Rat) : nb (fr q) = true := rfl
theorem nb_ofr (o : Option Rat) : nb (ofr o) = true := by cases o <;> rfl
theorem fr_inj {x y : Rat} : fr x = fr y ↔ x = y := by
  constructor
  · intro h
    unfold fr at h
    injection h with h
    injection h with h1 h
    injection h with h2 _
    injection h1 with h1
    injection h2 with h2
    exact Rat.ext h1 (by omega)
  · intro h
    rw [h]
/-! a law's own reckoning -/
section
variable {x y : Rat} {st : List Cell} {Q : Vl → List Cell → Prop}
theorem pow_le {n : Nat} {a : Nat} (h : a ≤ 200) (h1 : n < 2 ^ a) : n < 2 ^ 200 := Nat.lt_of_lt_of_le h1 (Nat.pow_le_pow_right (by decide) h)
theorem den_mul (h : zb x + zb y ≤ 200) : ((x.den : Int) * y.den).natAbs < 2 ^ 200 := pow_le h (sz_mul (sz_den (Nat.le_refl (zb x))) (sz_den (Nat.le_refl (zb y))))
theorem zz (h : zb x + zb y ≤ 200) : zb x + zb y < ZM := zm (by omega)
theorem ladd_ok (hz : zb x + zb y ≤ 200) (h : Q (.d (fr (x + y))) st) : sp__law_add [.d (fr x), .d (fr y)] st Q := by
  unfold sp__law_add
  refine ⟨rfl, mk_nn (zb_num x) (dn y) (zz hz), mk_nn (zb_num y) (dn x) (by rw [Nat.add_comm]; exact zz hz), mk_nn (dn x) (dn y) (zz hz), ?_⟩
  refine lfr_ok (mul_nn x y) (den_mul hz) (tk ?_)
  rw [← add_val]
  exact h
theorem lsub_ok (hz : zb x + zb y ≤ 200) (h : Q (.d (fr (x - y))) st) : sp__law_sub [.d (fr x), .d (fr y)] st Q := by
  unfold sp__law_sub
  refine ⟨rfl, mk_nn (zb_num x) (dn y) (zz hz), mk_nn (zb_num y) (dn x) (by rw [Nat.add_comm]; exact zz hz), trivial, mk_nn (dn x) (dn y) (zz hz), ?_⟩
  refine lfr_ok (mul_nn x y) (den_mul hz) (tk ?_)
  rw [← sub_val]
  exact h
theorem lmul_ok (hz : zb x + zb y ≤ 200) (h : Q (.d (fr (x * y))) st) : sp__law_mul [.d (fr x), .d (fr y)] st Q := by
  unfold sp__law_mul
  refine ⟨rfl, mk_nn (zb_num x) (zb_num y) (zz hz), mk_nn (dn x) (dn y) (zz hz), ?_⟩
  refine lfr_ok (mul_nn x y) (den_mul hz) (tk ?_)
  rw [← mul_val]
  exact h
end
theorem idx6 (r : Int) (h0 : 0 ≤ r) (h1 : r < 6) : ∃ z : Int, atI [Dt.int 1, .int 1, .int 1, .int 2, .int 3, .int 4] r = some (.int z) ∧ 0 < z ∧ z ≤ 4 := by
  have : r = 0 ∨ r = 1 ∨ r = 2 ∨ r = 3 ∨ r = 4 ∨ r = 5 := by omega
  rcases this with rfl | rfl | rfl | rfl | rfl | rfl
  · exact ⟨1, rfl, by decide, by decide⟩
  · exact ⟨1, rfl, by decide, by decide⟩
  · exact ⟨1, rfl, by decide, by decide⟩
  · exact ⟨2, rfl, by decide, by decide⟩
  · exact ⟨3, rfl, by decide, by decide⟩
  · exact ⟨4, rfl, by decide, by decide⟩
section
variable {ds : List Int} {i k : Nat} {st : List Cell} {Q : Vl → List Cell → Prop}
theorem some_ok (hk : st[k]? = some (Bx ds i)) (h : ∀ q : Rat, zb q ≤ 6 → Q (.d (fr q)) (st.set k (Bx ds (i + 2)))) :
    sp__law_some [.c k] st Q := by
  have hlt : k < st.length := (List.getElem?_eq_some_iff.mp hk).1
  have hs : ∀ c : Cell, (st.set k c)[k]? = some c := fun c => by simp [hlt]
  have hl : ∀ c : Cell, (st.set k c).length = st.length := fun c => List.length_set
  unfold sp__law_some
  refine ⟨rfl, draw_ok hk (by decide) fun a a0 a1 => ?_⟩
  refine ⟨trivial, lineN rfl, ?_⟩
  refine draw_ok (hs _) (by decide) fun b b0 b1 => ?_
  rw [List.set_set]
  obtain ⟨z, e, z0, z1⟩ := idx6 b b0 b1
  refine rIx_mk e ?_
  refine lfr_ok (by omega) (by omega) ?_
  rw [← hl (Bx ds (i + 2))]
  have := h (Rat.divInt (a - 6) z) (zb_small (b := 4) z0 (by omega) (by omega) (by decide))
  exact tk this
end
end PG

set_option maxRecDepth 100000
set_option maxHeartbeats 4000000
namespace PG
open PySem PySem.Spec PyProof.Rows L2 RT
/-- a loop over a list that stays as it is -/
theorem each_inv {i : Nat} {b : DS} {all : List Dt} {lk : Option Nat} {E : DEnds} {α : Type} (f : α → Dt) (I : List α → M → Prop) (hlk : ∀ r m, I r m → lockOk lk all m)
    (hs : ∀ x r m (K : M → Prop), (∀ m', I r m' → K m') → I (x :: r) m → b ⟨K, E.rt, E.nx, K⟩ ⟨m.sl.set i (some (.d (f x))), m.st⟩) (hd : ∀ m, I [] m → E.nx m) :
    ∀ (xs : List α) (m : M), I xs m → dLoop (.nm i) b all lk E (xs.map f) m
  | [], m, h => ⟨hlk _ m h, hd m h⟩
  | x :: r, m, h => ⟨hlk _ m h, hs x r m _ (fun m' h' => each_inv f I hlk hs hd r m' h') h⟩
/-! the least, the greatest -/
def bstep (lt : Rat → Rat → Prop) [DecidableRel lt] (b : Option Rat) (v : Option Rat) : Option Rat := match v, b with
  | none, b => b
  | some x, none => some x
  | some x, some y => if lt x y then some x else some y
def least (xs : List (Option Rat)) : Option Rat := xs.foldl (bstep fun x y => x < y) none
def greatest (xs : List (Option Rat)) : Option Rat := xs.foldl (bstep fun x y => y < x) none
/-- all of them are small -/
def Zs (n : Nat) (xs : List (Option Rat)) : Prop := ∀ q, some q ∈ xs → zb q ≤ n
theorem bstep_z {lt : Rat → Rat → Prop} [DecidableRel lt] {n : Nat} {b v : Option Rat} (hb : ∀ q, b = some q → zb q ≤ n) (hv : ∀ q, v = some q → zb q ≤ n) : ∀ q, bstep lt b v = some q → zb q ≤ n := fun q e => by
  cases v with
  | none => exact hb q e
  | some x =>
    cases b with
    | none => exact hv q e
    | some y =>
      unfold bstep at e
      simp only at e
      split at e
      · exact hv q e
      · exact hb q e
section
variable {st : List Cell} {Q : Vl → List Cell → Prop}
theorem best_ok {n : Nat} {xs : List (Option Rat)} (hz : Zs n xs) (hn : n + n < ZM) (h : Q (.d (ofr (least xs))) st) : sp_least_of [.d (.lst (xs.map ofr))] st Q := by
  unfold sp_least_of
  refine ⟨rfl, ?_⟩
  refine each_inv (lk := none) ofr (fun r m => ∃ b z, m = ⟨[some (.d (.lst (xs.map ofr))), some (.d (ofr b)), z], st⟩ ∧ (∀ q, b = some q → zb q ≤ n) ∧ Zs n r ∧ r.foldl (bstep fun x y => x < y) b = least xs) (fun _ _ _ => trivial) ?_ ?_ xs _ ⟨none, none, rfl, (fun q e => nomatch e), hz, rfl⟩
  · rintro x r _ K hK ⟨b, z, rfl, hb, hr, e⟩
    have hx : ∀ q, x = some q → zb q ≤ n := fun q e => hr q (e ▸ List.mem_cons_self)
    have hr' : Zs n r := fun q hq => hr q (List.mem_cons_of_mem _ hq)
    have go : K ⟨[some (.d (.lst (xs.map ofr))), some (.d (ofr (bstep (fun x y => x < y) b x))), some (.d (ofr x))], st⟩ := hK _ ⟨_, _, rfl, bstep_z hb hx, hr', e⟩
    cases x with
    | none => exact go
    | some x =>
      cases b with
      | none => exact go
      | some b =>
        have zx := hx x rfl
        have zb' := hb b rfl
        refine is_less_ok (x := x) (y := b) (Nat.lt_of_le_of_lt (Nat.add_le_add zx zb') hn) ?_
        show if (decide (x < b)) = true then _ else _
        unfold bstep at go
        simp only at go
        by_cases hlt : x < b
        · rw [if_pos (decide_eq_true hlt)]
          rw [if_pos hlt] at go
          exact go
        · rw [if_neg (by simpa using hlt)]
          rw [if_neg hlt] at go
          exact go
  · rintro _ ⟨b, z, rfl, _, _, e⟩
    have e' : b = least xs := e
    rw [← e'] at h
    exact tk h
theorem gbest_ok {n : Nat} {xs : List (Option Rat)} (hz : Zs n xs) (hn : n + n < ZM) (h : Q (.d (ofr (greatest xs))) st) : sp_greatest_of [.d (.lst (xs.map ofr))] st Q := by
  unfold sp_greatest_of
  refine ⟨rfl, ?_⟩
  refine each_inv (lk := none) ofr (fun r m => ∃ b z, m = ⟨[some (.d (.lst (xs.map ofr))), some (.d (ofr b)), z], st⟩ ∧ (∀ q, b = some q → zb q ≤ n) ∧ Zs n r ∧ r.foldl (bstep fun x y => y < x) b = greatest xs) (fun _ _ _ => trivial) ?_ ?_ xs _ ⟨none, none, rfl, (fun q e => nomatch e), hz, rfl⟩
  · rintro x r _ K hK ⟨b, z, rfl, hb, hr, e⟩
    have hx : ∀ q, x = some q → zb q ≤ n := fun q e => hr q (e ▸ List.mem_cons_self)
    have hr' : Zs n r := fun q hq => hr q (List.mem_cons_of_mem _ hq)
    have go : K ⟨[some (.d (.lst (xs.map ofr))), some (.d (ofr (bstep (fun x y => y < x) b x))), some (.d (ofr x))], st⟩ := hK _ ⟨_, _, rfl, bstep_z hb hx, hr', e⟩
    cases x with
    | none => exact go
    | some x =>
      cases b with
      | none => exact go
      | some b =>
        have zx := hx x rfl
        have zb' := hb b rfl
        refine is_less_ok (x := b) (y := x) (Nat.lt_of_le_of_lt (Nat.add_le_add zb' zx) hn) ?_
        show if (decide (b < x)) = true then _ else _
        unfold bstep at go
        simp only at go
        by_cases hlt : b < x
        · rw [if_pos (decide_eq_true hlt)]
          rw [if_pos hlt] at go
          exact go
        · rw [if_neg (by simpa using hlt)]
          rw [if_neg hlt] at go
          exact go
  · rintro _ ⟨b, z, rfl, _, _, e⟩
    have e' : b = greatest xs := e
    rw [← e'] at h
    exact tk h
/-- what lies nearest to 0 -/
def nearest (lo hi : Option Rat) : Rat := match lo, hi with
  | some l, some u => if 0 < l then l else if u < 0 then u else 0
  | some l, none => if 0 < l then l else 0
  | none, some u => if u < 0 then u else 0
  | none, none => 0
theorem sgn_pos (x : Rat) : (0 < sgn x) ↔ 0 < x := by
  unfold sgn
  grind
theorem sgn_neg (x : Rat) : (sgn x < 0) ↔ x < 0 := by
  unfold sgn
  grind
theorem nearest_ok {lo hi : Option Rat} (h : Q (.d (fr (nearest lo hi))) st) : sp_nearest_to_zero [.d (ofr lo), .d (ofr hi)] st Q := by
  have h0 : (∀ u, hi = some u → ¬ u < 0) → (∀ l, lo = some l → ¬ 0 < l) → nearest lo hi = 0 := fun a b => by
    cases lo <;> cases hi <;> simp_all [nearest]
  unfold sp_nearest_to_zero
  refine ⟨rfl, ?_⟩
  have two : (∀ l, lo = some l → ¬ 0 < l) → dSeq (dIfS (dAnd (dTest (dNotN (dVar 1))) (dTest (dOp rLt (dCall PG.sp_sign [] (dCons (dVar 1) dNil)) (dC (.int 0))))) (dRet (dVar 1)) dNext)
      (dRet (dC PG.v_ZERO)) (endsOf false st.length Q) ⟨[some (.d (ofr lo)), some (.d (ofr hi))], st⟩ := fun hl => by
    cases hi with
    | none =>
      rw [h0 (fun u e => by cases e) hl] at h
      exact tk h
    | some u =>
      refine sign_ok (x := u) ⟨trivial, ?_⟩
      show if (decide (sgn u < 0)) = true then _ else _
      by_cases hu : u < 0
      · rw [if_pos (decide_eq_true ((sgn_neg u).mpr hu))]
        have e : nearest lo (some u) = u := by
          cases lo <;> simp_all [nearest]
        rw [e] at h
        exact tk h
      · rw [if_neg (by simp only [decide_eq_true_eq]; exact fun z => hu ((sgn_neg u).mp z))]
        rw [h0 (fun u' e => by cases e; exact hu) hl] at h
        exact tk h
  cases lo with
  | none => exact two fun l e => by cases e
  | some l =>
    refine sign_ok (x := l) ⟨trivial, ?_⟩
    show if (decide (0 < sgn l)) = true then _ else _
    by_cases hl : 0 < l
    · rw [if_pos (decide_eq_true ((sgn_pos l).mpr hl))]
      have e : nearest (some l) hi = l := by
        cases hi <;> simp_all [nearest]
      rw [e] at h
      exact tk h
    · rw [if_neg (by simp only [decide_eq_true_eq]; exact fun z => hl ((sgn_pos l).mp z))]
      exact two fun l' e => by cases e; exact hl
end
end PG

set_option maxRecDepth 100000
set_option maxHeartbeats 4000000
namespace PG
open PySem PySem.Spec PyProof.Rows L2 RT
theorem guard_all {c : DT} {t b : DS} {E : DEnds} {m : M} (P : M → Prop) (hc : ∀ K : Bool → M → Prop, (∀ m', P m' → K false m') → c m K) (h : ∀ m', P m' → b E m') : dSeq (dIfS c t dNext) b E m := hc _ h
theorem guard_end {c : DT} {t : DS} {E : DEnds} {m : M} (P : M → Prop) (hc : ∀ K : Bool → M → Prop, (∀ m', P m' → K false m') → c m K) (h : ∀ m', P m' → E.nx m') : dIfS c t dNext E m := hc _ h
theorem ifs_t {c : DT} {t u : DS} {E : DEnds} {m : M} (m' : M) (hc : ∀ K : Bool → M → Prop, K true m' → c m K) (h : t E m') : dIfS c t u E m := hc _ (by rw [if_pos rfl]; exact h)
theorem idx3 {q1 q2 : Rat} {n : Nat} (h1 : zb q1 ≤ n) (h2 : zb q2 ≤ n) (r : Int) (h0 : 0 ≤ r) (h3 : r < 3) : ∃ o : Option Rat, atI [Dt.non, fr q1, fr q2] r = some (ofr o) ∧ ∀ q, o = some q → zb q ≤ n := by
  have : r = 0 ∨ r = 1 ∨ r = 2 := by omega
  rcases this with rfl | rfl | rfl
  · exact ⟨none, rfl, fun q e => nomatch e⟩
  · exact ⟨some q1, rfl, fun q e => by cases e; exact h1⟩
  · exact ⟨some q2, rfl, fun q e => by cases e; exact h2⟩
/-- a row's own cell -/
theorem cell_at {b c : Cell} {rest : List Cell} : (b :: (rest ++ [c]))[rest.length + 1]? = some c := by simp
theorem cell_set {b c d : Cell} {rest : List Cell} : (b :: (rest ++ [c])).set (rest.length + 1) d = b :: (rest ++ [d]) := by simp
theorem zs_nil {n : Nat} : Zs n [] := fun _ h => nomatch h
def Inv1 (s : Dt) (ds : List Int) (m : M) : Prop := ∃ (i : Nat) (rest : List Cell) (z2 z3 z4 z5 z6 z7 z8 z9 z10 z11 : Option Vl), m = ⟨[some (.d s), some (.c 0), z2, z3, z4, z5, z6, z7, z8, z9, z10, z11], Bx ds i :: rest⟩
def fz (k : Nat) (xs : List Dt) : Option Vl → Option Vl := fun o => match o with
  | some (.c j) => if j = k then some (.d (.lst xs)) else some (.c j)
  | o => o
theorem frz_eq (k : Nat) (xs : List Dt) (m : M) : frz k xs m = ⟨m.sl.map (fz k xs), m.st.set k .dead⟩ := rfl
theorem fz_self {k : Nat} {xs : List Dt} : fz k xs (some (.c k)) = some (.d (.lst xs)) := if_pos rfl
theorem fz_ne {j k : Nat} {xs : List Dt} (h : j ≠ k) : fz k xs (some (.c j)) = some (.c j) := if_neg h
theorem fz_d {k : Nat} {xs : List Dt} {d : Dt} : fz k xs (some (.d d)) = some (.d d) := rfl
theorem law_k01 : LawD 63 sp_law_2 := fun ns hl hb => by
  unfold sp_law_2
  refine ⟨rfl, ?_⟩
  refine digits_ok hb (by decide) (by decide) (by decide) fun ds hd hdl => ?_
  refine ⟨lineN rfl, ?_⟩
  dsimp only
  let sc : Dt := .lst (ns.map .int)
  refine ⟨⟨by decide, by decide⟩, range_inv (fun _ _ m => Inv1 sc ds m) ?_ ?_ 4 0 _ ⟨0, [], none, none, none, none, none, none, none, none, none, none, rfl⟩⟩
  · rintro n lo _ K hK ⟨i, rest, z2, z3, z4, z5, z6, z7, z8, z9, z10, z11, rfl⟩
    refine ⟨Nat.zero_le _, ?_⟩
    dsimp only
    let C : Vl := .c (rest.length + 1)
    refine seq_mid (fun m => ∃ (i : Nat) (xs : List (Option Rat)) (z4 : Option Vl), m = ⟨[some (.d sc), some (.c 0), some (.d (.int lo)), some C, z4, z5, z6, z7, z8, z9, z10, z11], Bx ds i :: (rest ++ [.lst (xs.map ofr)])⟩ ∧ Zs 6 xs) (fun K' hK' => ?_) ?_
    · refine draw_ok (k := 0) (i := i) (ds := ds) rfl (by decide) fun r r0 r1 => ?_
      refine ⟨⟨by omega, by omega⟩, range_inv (fun n _ m => ∃ (i : Nat) (xs : List (Option Rat)) (z4 : Option Vl), m = ⟨[some (.d sc), some (.c 0), some (.d (.int lo)), some C, z4, z5, z6, z7, z8, z9, z10, z11], Bx ds i :: (rest ++ [.lst (xs.map ofr)])⟩ ∧ Zs 6 xs ∧ xs.length + n ≤ 7) ?_ ?_ r.toNat 0 _ ⟨i + 1, [], z4, rfl, zs_nil, by rw [List.length_nil]; omega⟩⟩
      · rintro n lo2 _ K2 hK2 ⟨i, xs, z4, rfl, hz, hlen⟩
        refine ⟨⟨_, cell_at⟩, ?_⟩
        refine some_ok (k := 0) (i := i) (ds := ds) rfl fun q1 h1 => ?_
        refine some_ok (k := 0) (i := i + 2) (ds := ds) rfl fun q2 h2 => ?_
        refine ⟨lineN rfl, ?_⟩
        refine draw_ok (k := 0) (i := i + 4) (ds := ds) rfl (by decide) fun r r0 r1 => ?_
        obtain ⟨o, e, ho⟩ := idx3 h1 h2 r r0 r1
        refine rIx_mk e ?_
        refine onC_mk (xs := xs.map ofr) cell_at ⟨small_lt (by rw [List.length_map]; omega), ?_⟩
        refine hK2 _ ⟨i + 5, xs ++ [o], some (.d (.int lo2)), ?_, ?_, by rw [List.length_append, List.length_singleton]; omega⟩
        · refine congrArg (M.mk _) ?_
          rw [List.map_append]
          exact cell_set
        · intro q hq
          rcases List.mem_append.mp hq with h | h
          · exact hz q h
          · rw [List.mem_singleton] at h
            exact ho q h.symm
      · rintro lo2 _ ⟨i, xs, z4, rfl, hz, hlen⟩
        exact hK' _ ⟨i, xs, z4, rfl, hz⟩
    rintro _ ⟨i, xs, z4, rfl, hz⟩
    refine set_st (.d .non) ⟨_, _⟩ (fun K hK => hK) ?_
    refine set_st (.d .non) ⟨_, _⟩ (fun K hK => hK) ?_
    refine seq_mid (fun m => ∃ z7 : Option Vl, m = ⟨[some (.d sc), some (.c 0), some (.d (.int lo)), some C, z4, some (.d (ofr (least xs))), some (.d (ofr (greatest xs))), z7, z8, z9, z10, z11], Bx ds i :: (rest ++ [.lst (xs.map ofr)])⟩) (fun K' hK' => ?_) ?_
    · refine onC_mk (xs := xs.map ofr) cell_at ?_
      refine each_inv (lk := some (rest.length + 1)) ofr (fun r m => ∃ (b g : Option Rat) (z7 : Option Vl), m = ⟨[some (.d sc), some (.c 0), some (.d (.int lo)), some C, z4, some (.d (ofr b)), some (.d (ofr g)), z7, z8, z9, z10, z11], Bx ds i :: (rest ++ [.lst (xs.map ofr)])⟩ ∧
        (∀ q, b = some q → zb q ≤ 6) ∧ (∀ q, g = some q → zb q ≤ 6) ∧ Zs 6 r ∧ r.foldl (bstep fun x y => x < y) b = least xs ∧ r.foldl (bstep fun x y => y < x) g = greatest xs) ?_ ?_ ?_ xs _ ⟨none, none, z7, rfl, (fun q e => nomatch e), (fun q e => nomatch e), hz, rfl, rfl⟩
      · rintro r _ ⟨b, g, z7, rfl, _⟩
        exact cell_at
      · rintro x r _ K2 hK2 ⟨b, g, z7, rfl, hb, hg, hr, e1, e2⟩
        have hx : ∀ q, x = some q → zb q ≤ 6 := fun q e => hr q (e ▸ List.mem_cons_self)
        have hr' : Zs 6 r := fun q hq => hr q (List.mem_cons_of_mem _ hq)
        have go := hK2 _ ⟨_, _, some (.d (ofr x)), rfl, bstep_z hb hx, bstep_z hg hx, hr', e1, e2⟩
        cases x with
        | none => exact go
        | some x =>
          have zx := hx x rfl
          refine ifs_t ⟨_, _⟩ (fun K hK => hK) ?_
          refine seq_mid (fun m => m = ⟨[some (.d sc), some (.c 0), some (.d (.int lo)), some C, z4, some (.d (ofr (bstep (fun x y => x < y) b (some x)))), some (.d (ofr g)), some (.d (ofr (some x))), z8, z9, z10, z11], Bx ds i :: (rest ++ [.lst (xs.map ofr)])⟩) (fun K3 hK3 => ?_) ?_
          · cases b with
            | none => exact hK3 _ rfl
            | some b =>
              have zb' := hb b rfl
              refine less_ok (x := x) (y := b) (zm (by omega)) ?_
              show if (decide (x < b)) = true then _ else _
              by_cases hlt : x < b
              · rw [if_pos (decide_eq_true hlt)]
                refine hK3 _ ?_
                unfold bstep
                simp only [if_pos hlt]
                rfl
              · rw [if_neg (by simpa using hlt)]
                refine hK3 _ ?_
                unfold bstep
                simp only [if_neg hlt]
                rfl
          · rintro _ rfl
            cases g with
            | none => exact go
            | some g =>
              have zg' := hg g rfl
              refine less_ok (x := g) (y := x) (zm (by omega)) ?_
              show if (decide (g < x)) = true then _ else _
              have eg : bstep (fun x y => y < x) (some g) (some x) = if g < x then some x else some g := rfl
              rw [eg] at go
              by_cases hlt : g < x
              · rw [if_pos (decide_eq_true hlt)]
                rw [if_pos hlt] at go
                exact go
              · rw [if_neg (by simpa using hlt)]
                rw [if_neg hlt] at go
                exact go
      · rintro _ ⟨b, g, z7, rfl, _, _, _, e1, e2⟩
        have e1' : b = least xs := e1
        have e2' : g = greatest xs := e2
        rw [e1', e2']
        exact hK' _ ⟨z7, rfl⟩
    rintro _ ⟨z7, rfl⟩
    refine guard_all (Inv1 sc ds) (fun K' hK' => ?_) ?_
    · refine onC_mk (xs := xs.map ofr) cell_at ?_
      dsimp only
      rw [show frz (rest.length + 1) (xs.map ofr) ⟨[some (.d sc), some (.c 0), some (.d (.int lo)), some C, z4, some (.d (ofr (least xs))), some (.d (ofr (greatest xs))), z7, z8, z9, z10, z11], Bx ds i :: (rest ++ [.lst (xs.map ofr)])⟩ =
        ⟨[some (.d sc), some (.c 0), some (.d (.int lo)), some (.d (.lst (xs.map ofr))), fz (rest.length + 1) (xs.map ofr) z4, some (.d (ofr (least xs))), some (.d (ofr (greatest xs))), fz (rest.length + 1) (xs.map ofr) z7, fz (rest.length + 1) (xs.map ofr) z8,
          fz (rest.length + 1) (xs.map ofr) z9, fz (rest.length + 1) (xs.map ofr) z10, fz (rest.length + 1) (xs.map ofr) z11], Bx ds i :: (rest ++ [.dead])⟩ from by
        rw [frz_eq]
        refine congr (congrArg M.mk ?_) cell_set
        simp only [List.map_cons, List.map_nil, fz_d, fz_self, C]
        rw [fz_ne (by omega)]]
      refine best_ok hz (zm (by decide)) ?_
      refine ⟨sh_ok sh_ofr, sh_ok sh_ofr, ?_⟩
      show if (!eqD (ofr (least xs)) (ofr (least xs))) = true then _ else _
      rw [neD_self]
      refine gbest_ok hz (zm (by decide)) ?_
      refine ⟨sh_ok sh_ofr, sh_ok sh_ofr, ?_⟩
      show K' (!eqD (ofr (greatest xs)) (ofr (greatest xs))) _
      rw [neD_self]
      exact hK' _ ⟨_, _, _, _, _, _, _, _, _, _, _, _, rfl⟩
    · rintro _ ⟨i, rest, z2, z3, z4, z5, z6, z7, z8, z9, z10, z11, rfl⟩
      refine some_ok (k := 0) (i := i) (ds := ds) rfl fun l hl => ?_
      refine draw_ok (k := 0) (i := i + 2) (ds := ds) rfl (by decide) fun a a0 a1 => ?_
      refine lfr_ok (by decide) (by decide) ?_
      have hd2 := zb_small (n := a) (d := 2) (b := 4) (by decide) (by omega) (by decide) (by decide)
      refine ladd_ok (by omega) ?_
      have hu2 : zb (l + Rat.divInt a 2) ≤ 12 := Nat.le_trans (zb_add l (Rat.divInt a 2)) (by omega)
      have hlu : l ≤ l + Rat.divInt a 2 := by
        have : 0 ≤ Rat.divInt a 2 := by
          rw [← Rat.num_nonneg, Rat.num_divInt]
          exact Int.ediv_nonneg (Int.mul_nonneg (by decide) a0) (by omega)
        grind
      generalize l + Rat.divInt a 2 = u at hu2 hlu
      refine draw_ok (k := 0) (i := i + 3) (ds := ds) rfl (by decide) fun w w0 w1 => ?_
      dsimp only
      refine set_st (.d (fr 0)) ⟨_, _⟩ (fun K hK => ⟨lineN rfl, hK⟩) ?_
      let S : Dt → M := fun d => ⟨[some (.d sc), some (.c 0), z2, z3, z4, z5, z6, z7, some (.d (fr l)), some (.d (fr u)), some (.d (.int w)), some (.d d)], Bx ds (i + 4) :: rest⟩
      have h0 : zb 0 ≤ 2 := by decide
      refine seq_mid (fun m => m = S (fr (if w < 2 ∧ 0 < l then l else 0))) (fun K3 hK3 => ?_) ?_
      · refine ⟨trivial, ?_⟩
        show if (decide (w < 2)) = true then _ else _
        by_cases c : w < 2
        · rw [if_pos (decide_eq_true c)]
          refine ⟨lineN rfl, ?_⟩
          refine less_ok (x := 0) (y := l) (zm (by omega)) ?_
          show if (decide (0 < l)) = true then _ else _
          by_cases e : 0 < l
          · rw [if_pos (decide_eq_true e)]
            rw [if_pos ⟨c, e⟩] at hK3
            exact hK3 _ rfl
          · rw [if_neg (by simpa using e)]
            rw [if_neg (fun z => e z.2)] at hK3
            exact hK3 _ rfl
        · rw [if_neg (by simpa using c)]
          rw [if_neg (fun z => c z.1)] at hK3
          exact hK3 _ rfl
      rintro _ rfl
      generalize hd1 : (if w < 2 ∧ 0 < l then l else 0) = d1
      refine seq_mid (fun m => m = S (fr (if (w ≠ 1 ∧ w ≠ 3) ∧ u < 0 then u else d1))) (fun K3 hK3 => ?_) ?_
      · refine ⟨rfl, rfl, ?_⟩
        show if (!eqD (.int w) (.int 1)) = true then _ else _
        rw [eqD_int]
        by_cases c : w = 1
        · rw [decide_eq_true c]
          rw [if_neg (fun z => z.1.1 c)] at hK3
          exact hK3 _ rfl
        rw [decide_eq_false c]
        refine ⟨rfl, rfl, ?_⟩
        show if (!eqD (.int w) (.int 3)) = true then _ else _
        rw [eqD_int]
        by_cases c3 : w = 3
        · rw [decide_eq_true c3]
          rw [if_neg (fun z => z.1.2 c3)] at hK3
          exact hK3 _ rfl
        rw [decide_eq_false c3]
        refine ⟨lineN rfl, ?_⟩
        refine less_ok (x := u) (y := 0) (zm (by omega)) ?_
        show if (decide (u < 0)) = true then _ else _
        by_cases e : u < 0
        · rw [if_pos (decide_eq_true e)]
          rw [if_pos ⟨⟨c, c3⟩, e⟩] at hK3
          exact hK3 _ rfl
        · rw [if_neg (by simpa using e)]
          rw [if_neg (fun z => e z.2)] at hK3
          exact hK3 _ rfl
      rintro _ rfl
      have fin : ∀ (E : DEnds) (_ : ∀ m, K m → E.nx m) (lo hi : Option Rat), atI [fr l, fr l, .non, .non] w = some (ofr lo) → atI [fr u, .non, fr u, .non] w = some (ofr hi) → nearest lo hi = (if (w ≠ 1 ∧ w ≠ 3) ∧ u < 0 then u else d1) →
          dIfS (dTest (dOp RT.rNe (dCall PG.sp_nearest_to_zero [] (dCons (dOp RT.rIx (dLst (dCons (dVar 8) (dCons (dVar 8) (dCons (dC .non) (dCons (dC .non) dNil))))) (dVar 10)) (dCons (dOp RT.rIx (dLst (dCons (dVar 9) (dCons (dC .non) (dCons (dVar 9) (dCons (dC .non) dNil))))) (dVar 10)) dNil))) (dVar 11)))
            (dRet (dC (.bl false))) dNext E (S (fr (if (w ≠ 1 ∧ w ≠ 3) ∧ u < 0 then u else d1))) := fun E hE lo hi e1 e2 e3 => by
        refine guard_end (fun m => m = S (fr (if (w ≠ 1 ∧ w ≠ 3) ∧ u < 0 then u else d1))) (fun K3 hK3 => ?_) ?_
        · refine ⟨lineN rfl, rIx_mk e1 ⟨lineN rfl, rIx_mk e2 ?_⟩⟩
          refine nearest_ok ?_
          rw [e3]
          refine ⟨sh_ok sh_fr, sh_ok sh_fr, ?_⟩
          show K3 (!eqD _ _) _
          rw [neD_self]
          exact hK3 _ rfl
        · rintro _ rfl
          exact hE _ (hK _ ⟨_, _, _, _, _, _, _, _, _, _, _, _, rfl⟩)
      have cw : w = 0 ∨ w = 1 ∨ w = 2 ∨ w = 3 := by omega
      rcases cw with rfl | rfl | rfl | rfl
      · exact fin _ (fun _ h => h) (some l) (some u) rfl rfl (by unfold nearest; grind)
      · exact fin _ (fun _ h => h) (some l) none rfl rfl (by unfold nearest; grind)
      · exact fin _ (fun _ h => h) none (some u) rfl rfl (by unfold nearest; grind)
      · exact fin _ (fun _ h => h) none none rfl rfl (by unfold nearest; grind)
  · rintro lo _ ⟨i, rest, z2, z3, z4, z5, z6, z7, z8, z9, z10, z11, rfl⟩
    exact rfl
end PG

set_option maxRecDepth 100000
set_option maxHeartbeats 4000000
namespace PG
open PySem PySem.Spec PyProof.Rows L2 RT
/-! sizes by a common denominator -/
def In (D B : Nat) (q : Rat) : Prop := ∃ n : Int, q * (D : Rat) = (n : Rat) ∧ n.natAbs ≤ B * D
theorem in_add {D B C : Nat} {x y : Rat} : In D B x → In D C y → In D (B + C) (x + y) := fun ⟨n, h1, h2⟩ ⟨m, h3, h4⟩ => ⟨n + m, by rw [Rat.add_mul, h1, h3, ← Rat.intCast_add], by
  rw [Nat.add_mul]
  have := Int.natAbs_add_le n m
  omega⟩
theorem in_neg {D B : Nat} {x : Rat} : In D B x → In D B (-x) := fun ⟨n, h1, h2⟩ => ⟨-n, by rw [Rat.neg_mul, h1, Rat.intCast_neg], by rw [Int.natAbs_neg]; exact h2⟩
theorem in_sub {D B C : Nat} {x y : Rat} (h1 : In D B x) (h2 : In D C y) : In D (B + C) (x - y) := by
  rw [Rat.sub_eq_add_neg]
  exact in_add h1 (in_neg h2)
theorem in_mul {D B E C : Nat} {x y : Rat} : In D B x → In E C y → In (D * E) (B * C) (x * y) := fun ⟨n, h1, h2⟩ ⟨m, h3, h4⟩ => ⟨n * m, by
  rw [Rat.intCast_mul, ← h1, ← h3, Rat.natCast_mul]
  grind, by
  rw [Int.natAbs_mul, show B * C * (D * E) = (B * D) * (C * E) by simp only [Nat.mul_assoc, Nat.mul_left_comm, Nat.mul_comm]]
  exact Nat.mul_le_mul h2 h4⟩
theorem in_up {D B k : Nat} {x : Rat} (hk : 0 < k) : In D B x → In (D * k) B x := fun ⟨n, h1, h2⟩ => ⟨n * k, by
  rw [Rat.intCast_mul, ← h1, Rat.natCast_mul]
  simp only [Rat.intCast_natCast]
  grind, by
  rw [Int.natAbs_mul, Int.natAbs_natCast, ← Nat.mul_assoc]
  exact Nat.mul_le_mul_right _ h2⟩
theorem in_le {D B C : Nat} {x : Rat} (h : B ≤ C) : In D B x → In D C x := fun ⟨n, h1, h2⟩ => ⟨n, h1, Nat.le_trans h2 (Nat.mul_le_mul_right _ h)⟩
theorem in_val {D B : Nat} {x : Rat} (hD : 0 < D) : In D B x → ∃ n : Int, x = Rat.divInt n D ∧ n.natAbs ≤ B * D := fun ⟨n, h1, h2⟩ => ⟨n, by
  rw [Rat.divInt_eq_div]
  have : (D : Rat) ≠ 0 := by
    have : D ≠ 0 := by omega
    simpa using this
  simp only [Rat.intCast_natCast]
  rw [← h1]
  grind, h2⟩
theorem in_zb {D B b : Nat} {x : Rat} (hD : 0 < D) (h : In D B x) (h1 : B * D < 2 ^ b) (h2 : D < 2 ^ b) (hb : 0 < b) : zb x ≤ b + 2 := by
  obtain ⟨n, e, hn⟩ := in_val hD h
  rw [e]
  exact zb_small (by omega) (by omega) (by omega) hb
theorem in_div {D B : Nat} {n : Int} {d : Nat} (hd : 0 < d) (hD : ∃ k, D = d * k) (h : n.natAbs ≤ B * d) : In D B (Rat.divInt n d) := by
  obtain ⟨k, rfl⟩ := hD
  refine ⟨n * k, ?_, ?_⟩
  · rw [Rat.divInt_eq_div, Rat.natCast_mul, Rat.intCast_mul]
    simp only [Rat.intCast_natCast]
    have : (d : Rat) ≠ 0 := by
      have : d ≠ 0 := by omega
      simpa using this
    grind
  · rw [Int.natAbs_mul, Int.natAbs_natCast, ← Nat.mul_assoc]
    exact Nat.mul_le_mul_right _ h
theorem in_zero {D : Nat} {B : Nat} : In D B 0 := ⟨0, by simp, by simp⟩
end PG

set_option maxRecDepth 100000
set_option maxHeartbeats 4000000
namespace PG
open PySem PySem.Spec PyProof.Rows L2 RT
theorem idx6b (r : Int) (h0 : 0 ≤ r) (h1 : r < 6) : ∃ z : Nat, atI [Dt.int 1, .int 1, .int 1, .int 2, .int 3, .int 4] r = some (.int z) ∧ 0 < z ∧ z ≤ 4 ∧ ∃ k, 12 = z * k := by
  have : r = 0 ∨ r = 1 ∨ r = 2 ∨ r = 3 ∨ r = 4 ∨ r = 5 := by omega
  rcases this with rfl | rfl | rfl | rfl | rfl | rfl
  · exact ⟨1, rfl, by decide, by decide, 12, rfl⟩
  · exact ⟨1, rfl, by decide, by decide, 12, rfl⟩
  · exact ⟨1, rfl, by decide, by decide, 12, rfl⟩
  · exact ⟨2, rfl, by decide, by decide, 6, rfl⟩
  · exact ⟨3, rfl, by decide, by decide, 4, rfl⟩
  · exact ⟨4, rfl, by decide, by decide, 3, rfl⟩
/-- a drawn fraction -/
def Pn (q : Rat) : Prop := ∃ (a : Int) (z : Nat), q = Rat.divInt a z ∧ a.natAbs ≤ 6 ∧ 0 < z ∧ z ≤ 4
theorem dvd12 {z : Nat} (h : 0 < z) (h4 : z ≤ 4) : ∃ k, 12 = z * k := by
  have : z = 1 ∨ z = 2 ∨ z = 3 ∨ z = 4 := by omega
  rcases this with rfl | rfl | rfl | rfl
  · exact ⟨12, rfl⟩
  · exact ⟨6, rfl⟩
  · exact ⟨4, rfl⟩
  · exact ⟨3, rfl⟩
theorem Pn.in_ {q : Rat} : Pn q → In 12 6 q := fun ⟨a, z, e, h1, h2, h3⟩ => by
  rw [e]
  exact in_div h2 (dvd12 h2 h3) (Nat.le_trans h1 (Nat.le_mul_of_pos_right _ h2))
theorem Pn.zb {q : Rat} (h : Pn q) : zb q ≤ 9 := in_zb (b := 7) (by decide) h.in_ (by decide) (by decide) (by decide)
theorem dvd60 {z : Nat} (h : 0 < z) (h4 : z ≤ 6) : ∃ k, 60 = z * k := by
  have : z = 1 ∨ z = 2 ∨ z = 3 ∨ z = 4 ∨ z = 5 ∨ z = 6 := by omega
  rcases this with rfl | rfl | rfl | rfl | rfl | rfl
  · exact ⟨60, rfl⟩
  · exact ⟨30, rfl⟩
  · exact ⟨20, rfl⟩
  · exact ⟨15, rfl⟩
  · exact ⟨12, rfl⟩
  · exact ⟨10, rfl⟩
theorem inv_divInt (a z : Int) : (Rat.divInt a z)⁻¹ = Rat.divInt z a := Rat.inv_divInt a z
theorem Pn.inv {q : Rat} (hq : q ≠ 0) : Pn q → In 60 6 q⁻¹ := fun ⟨a, z, e, h1, h2, h3⟩ => by
  subst e
  have ha : a ≠ 0 := fun e => hq (by rw [e, Rat.zero_divInt])
  rw [inv_divInt]
  rcases Int.lt_or_gt_of_ne ha with h | h
  · rw [← Rat.neg_divInt_neg, show -a = ((a.natAbs : Nat) : Int) by omega]
    exact in_div (by omega) (dvd60 (by omega) h1) (by rw [Int.natAbs_neg, Int.natAbs_natCast]; omega)
  · rw [show a = ((a.natAbs : Nat) : Int) by omega]
    exact in_div (by omega) (dvd60 (by omega) h1) (by rw [Int.natAbs_natCast]; omega)
section
variable {ds : List Int} {i k : Nat} {st : List Cell} {Q : Vl → List Cell → Prop}
theorem sm_ok (hk : st[k]? = some (Bx ds i)) (h : ∀ q : Rat, Pn q → Q (.d (fr q)) (st.set k (Bx ds (i + 2)))) : sp__law_some [.c k] st Q := by
  have hlt : k < st.length := (List.getElem?_eq_some_iff.mp hk).1
  have hs : ∀ c : Cell, (st.set k c)[k]? = some c := fun c => by simp [hlt]
  have hl : ∀ c : Cell, (st.set k c).length = st.length := fun c => List.length_set
  unfold sp__law_some
  refine ⟨rfl, draw_ok hk (by decide) fun a a0 a1 => ?_⟩
  refine ⟨trivial, lineN rfl, ?_⟩
  refine draw_ok (hs _) (by decide) fun b b0 b1 => ?_
  rw [List.set_set]
  obtain ⟨z, e, z0, z1, _⟩ := idx6b b b0 b1
  refine rIx_mk e ?_
  refine lfr_ok (by omega) (by omega) ?_
  rw [← hl (Bx ds (i + 2))]
  have := h (Rat.divInt (a - 6) z) ⟨a - 6, z, rfl, by omega, z0, z1⟩
  exact tk this
theorem fr_num_zero {q : Rat} : q.num = 0 ↔ q = 0 := Rat.num_eq_zero
theorem pn_half : Pn (Rat.divInt 1 2) := ⟨1, 2, rfl, by decide, by decide, by decide⟩
theorem other_ok (hk : st[k]? = some (Bx ds i)) (h : ∀ q : Rat, Pn q → q ≠ 0 → Q (.d (fr q)) (st.set k (Bx ds (i + 2)))) : sp__law_other [.c k] st Q := by
  have hl : ∀ c : Cell, (st.set k c).length = st.length := fun c => List.length_set
  unfold sp__law_other
  refine ⟨rfl, sm_ok hk fun q hq => ?_⟩
  refine ⟨rfl, rfl, ?_⟩
  show if eqD (.int q.num) (.int 0) = true then _ else _
  rw [eqD_int]
  by_cases c : q.num = 0
  · rw [if_pos (decide_eq_true c)]
    refine ⟨lineN rfl, ?_⟩
    have := h (Rat.divInt 1 2) pn_half (by decide)
    rw [← hl (Bx ds (i + 2))]
    exact tk this
  · rw [if_neg (by simpa using c)]
    have := h q hq (fun e => c (fr_num_zero.mpr e))
    rw [← hl (Bx ds (i + 2))]
    exact tk this
end
/-! elements of a train -/
inductive El where
  | gap (g : Rat) | lens (p c : Rat) | prism (d : Rat) | afocal (m : Rat) | stop (lo hi : Option Rat)
def elD : El → Dt
  | .gap g => .tup [.str ("gap" : Str), fr g]
  | .lens p c => .tup [.str ("lens" : Str), fr p, fr c]
  | .prism d => .tup [.str ("prism" : Str), fr d]
  | .afocal m => .tup [.str ("afocal" : Str), fr m]
  | .stop lo hi => .tup [.str ("stop" : Str), ofr lo, ofr hi]
/-- what is drawn -/
def ElIn : El → Prop
  | .gap g => Pn g
  | .lens p c => Pn p ∧ Pn c
  | .prism d => Pn d
  | .afocal m => Pn m ∧ m ≠ 0
  | .stop lo hi => (∀ q, lo = some q → In 12 12 q) ∧ ∀ q, hi = some q → In 12 12 q
theorem pn_zero : Pn 0 := ⟨0, 1, by decide, by decide, by decide, by decide⟩
section
variable {ds : List Int} {i k : Nat} {st : List Cell} {Q : Vl → List Cell → Prop}
theorem stop_ok (hk : st[k]? = some (Bx ds i)) (h : ∀ (lo hi : Option Rat) (j : Nat), ElIn (.stop lo hi) → Q (.d (elD (.stop lo hi))) (st.set k (Bx ds j))) : sp__law_stop [.c k] st Q := by
  have hlt : k < st.length := (List.getElem?_eq_some_iff.mp hk).1
  have hs : ∀ c : Cell, (st.set k c)[k]? = some c := fun c => by simp [hlt]
  have hl : ∀ c : Cell, (st.set k c).length = st.length := fun c => List.length_set
  have tk' : ∀ {v : Vl} {c : Cell}, Q v (st.set k c) → Q v ((st.set k c).take st.length) := fun {v c} q => by
    rw [← hl c]
    exact tk q
  unfold sp__law_stop
  refine ⟨rfl, draw_ok hk (by decide) fun w w0 w1 => ?_⟩
  refine sm_ok (hs _) fun l hl1 => ?_
  rw [List.set_set]
  refine draw_ok (hs _) (by decide) fun a a0 a1 => ?_
  rw [List.set_set]
  refine lfr_ok (by decide) (by decide) ?_
  have hd : In 12 6 (Rat.divInt a 2) := in_div (d := 2) (by decide) ⟨6, rfl⟩ (by omega)
  have zd := in_zb (b := 7) (by decide) hd (by decide) (by decide) (by decide)
  refine ladd_ok (by have := hl1.zb; omega) ?_
  have hu : In 12 12 (l + Rat.divInt a 2) := in_add hl1.in_ hd
  have hl12 : In 12 12 l := in_le (by decide) hl1.in_
  generalize l + Rat.divInt a 2 = u at hu
  refine ⟨rfl, rfl, ?_⟩
  show if eqD (.int w) (.int 0) = true then _ else _
  rw [eqD_int]
  by_cases c0 : w = 0
  · rw [if_pos (decide_eq_true c0)]
    refine ⟨lineN rfl, ?_⟩
    exact tk' (h none (some u) _ ⟨(fun q e => nomatch e), fun q e => by cases e; exact hu⟩)
  rw [if_neg (by simpa using c0)]
  refine ⟨rfl, rfl, ?_⟩
  show if eqD (.int w) (.int 1) = true then _ else _
  rw [eqD_int]
  by_cases c1 : w = 1
  · rw [if_pos (decide_eq_true c1)]
    refine ⟨lineN rfl, ?_⟩
    exact tk' (h (some l) none _ ⟨fun q e => by cases e; exact hl12, fun q e => nomatch e⟩)
  rw [if_neg (by simpa using c1)]
  refine ⟨rfl, rfl, ?_⟩
  show if eqD (.int w) (.int 2) = true then _ else _
  rw [eqD_int]
  have last : ∀ j, Q (.d (elD (.stop (some l) (some u)))) ((st.set k (Bx ds j)).take st.length) := fun j => tk' (h (some l) (some u) _ ⟨fun q e => by cases e; exact hl12, fun q e => by cases e; exact hu⟩)
  by_cases c2 : w = 2
  · rw [if_pos (decide_eq_true c2)]
    refine draw_ok (hs _) (by decide) fun b b0 b1 => ?_
    rw [List.set_set]
    refine ⟨rfl, rfl, ?_⟩
    show if eqD (.int b) (.int 0) = true then _ else _
    rw [eqD_int]
    by_cases c3 : b = 0
    · rw [if_pos (decide_eq_true c3)]
      refine ⟨lineN rfl, ?_⟩
      exact tk' (h none none _ ⟨(fun q e => nomatch e), fun q e => nomatch e⟩)
    · rw [if_neg (by simpa using c3)]
      exact ⟨lineN rfl, last _⟩
  · rw [if_neg (by simpa using c2)]
    exact ⟨lineN rfl, last _⟩
theorem idx2 {x y : Rat} (hx : Pn x) (hy : Pn y) (r : Int) (h0 : 0 ≤ r) (h1 : r < 2) : ∃ z : Rat, atI [fr x, fr y] r = some (fr z) ∧ Pn z := by
  have : r = 0 ∨ r = 1 := by omega
  rcases this with rfl | rfl
  · exact ⟨x, rfl, hx⟩
  · exact ⟨y, rfl, hy⟩
theorem element_ok (hk : st[k]? = some (Bx ds i)) (h : ∀ (e : El) (j : Nat), ElIn e → Q (.d (elD e)) (st.set k (Bx ds j))) : sp__law_element [.c k] st Q := by
  have hlt : k < st.length := (List.getElem?_eq_some_iff.mp hk).1
  have hs : ∀ c : Cell, (st.set k c)[k]? = some c := fun c => by simp [hlt]
  have hl : ∀ c : Cell, (st.set k c).length = st.length := fun c => List.length_set
  have tk' : ∀ {v : Vl} {c : Cell}, Q v (st.set k c) → Q v ((st.set k c).take st.length) := fun {v c} q => by
    rw [← hl c]
    exact tk q
  unfold sp__law_element
  refine ⟨rfl, draw_ok hk (by decide) fun w w0 w1 => ?_⟩
  refine ⟨trivial, ?_⟩
  show if (decide (w < 2)) = true then _ else _
  by_cases c0 : w < 2
  · rw [if_pos (decide_eq_true c0)]
    refine sm_ok (hs _) fun g hg => ?_
    rw [List.set_set]
    exact ⟨lineN rfl, tk' (h (.gap g) _ hg)⟩
  rw [if_neg (by simpa using c0)]
  refine ⟨rfl, rfl, ?_⟩
  show if eqD (.int w) (.int 2) = true then _ else _
  rw [eqD_int]
  by_cases c2 : w = 2
  · rw [if_pos (decide_eq_true c2)]
    refine sm_ok (hs _) fun p hp => ?_
    rw [List.set_set]
    refine ⟨lineN rfl, ?_⟩
    refine sm_ok (hs _) fun c hc => ?_
    rw [List.set_set]
    refine ⟨lineN rfl, ?_⟩
    refine draw_ok (hs _) (by decide) fun b b0 b1 => ?_
    rw [List.set_set]
    obtain ⟨z, e, hz⟩ := idx2 pn_zero hc b b0 b1
    refine rIx_mk e ?_
    exact ⟨lineN rfl, tk' (h (.lens p z) _ ⟨hp, hz⟩)⟩
  rw [if_neg (by simpa using c2)]
  refine ⟨rfl, rfl, ?_⟩
  show if eqD (.int w) (.int 3) = true then _ else _
  rw [eqD_int]
  by_cases c3 : w = 3
  · rw [if_pos (decide_eq_true c3)]
    refine sm_ok (hs _) fun g hg => ?_
    rw [List.set_set]
    exact ⟨lineN rfl, tk' (h (.prism g) _ hg)⟩
  rw [if_neg (by simpa using c3)]
  refine ⟨rfl, rfl, ?_⟩
  show if eqD (.int w) (.int 4) = true then _ else _
  rw [eqD_int]
  by_cases c4 : w = 4
  · rw [if_pos (decide_eq_true c4)]
    refine other_ok (hs _) fun g hg hn => ?_
    rw [List.set_set]
    exact ⟨lineN rfl, tk' (h (.afocal g) _ ⟨hg, hn⟩)⟩
  rw [if_neg (by simpa using c4)]
  refine stop_ok (hs _) fun lo hi j he => ?_
  rw [List.set_set]
  exact tk' (h (.stop lo hi) j he)
end
end PG

set_option maxRecDepth 100000
set_option maxHeartbeats 4000000
namespace PG
open PySem PySem.Spec PyProof.Rows L2 RT
/-- a comprehension over what stays as it is, without a condition -/
theorem lc_inv {α : Type} (f : α → Dt) {sl slw : List (Option Vl)} {i : Nat} {te : DE} {all : List Dt} {lk : Option Nat} {K : List Dt → M → Prop} (I : List Dt → List α → List Cell → Prop)
    (hlk : ∀ r acc st, I r acc st → lockOk lk all ⟨sl, st⟩)
    (hlen : ∀ x r acc st, I (x :: r) acc st → acc.length < sizeLine)
    (hs : ∀ x r acc st (P : Vl → M → Prop), I (x :: r) acc st → (∀ a m', I r (acc ++ [a]) m'.st → P (.d (f a)) m') → te ⟨slw.set i (some (.d x)), st⟩ P)
    (hd : ∀ acc st, I [] acc st → K (acc.map f) ⟨sl, st⟩) : ∀ (xs : List Dt) (acc : List α) (st : List Cell), I xs acc st → dLcGo sl slw (.nm i) dYes te all lk K xs (acc.map f) st
  | [], acc, st, h => ⟨hlk _ _ _ h, hd acc st h⟩
  | x :: r, acc, st, h => ⟨hlk _ _ _ h, by
    show te ⟨slw.set i (some (.d x)), st⟩ _
    refine hs x r acc st _ h fun a m' h' => ?_
    refine ⟨by rw [List.length_map]; exact hlen x r acc st h, ?_⟩
    have := lc_inv f I hlk hlen hs hd r (acc ++ [a]) m'.st h'
    rw [List.map_append] at this
    exact this⟩
section
variable {ds : List Int} {i k : Nat} {st : List Cell} {Q : Vl → List Cell → Prop}
theorem train_ok {n : Nat} (hn : n ≤ 100) (hk : st[k]? = some (Bx ds i)) (h : ∀ (es : List El) (j : Nat), es.length ≤ n → (∀ e ∈ es, ElIn e) → Q (.d (.lst (es.map elD))) (st.set k (Bx ds j))) : sp__law_train [.c k, .d (.int n)] st Q := by
  have hlt : k < st.length := (List.getElem?_eq_some_iff.mp hk).1
  have hs : ∀ c : Cell, (st.set k c)[k]? = some c := fun c => by simp [hlt]
  have hl : ∀ c : Cell, (st.set k c).length = st.length := fun c => List.length_set
  have tk' : ∀ {v : Vl} {c : Cell}, Q v (st.set k c) → Q v ((st.set k c).take st.length) := fun {v c} q => by
    rw [← hl c]
    exact tk q
  unfold sp__law_train
  refine ⟨rfl, draw_ok hk (by omega) fun r r0 r1 => ?_⟩
  refine ⟨⟨by omega, by omega⟩, ?_⟩
  refine lc_inv (lk := none) elD (fun r acc st' => ∃ j, st' = st.set k (Bx ds j) ∧ acc.length + r.length ≤ n ∧ ∀ e ∈ acc, ElIn e) (fun _ _ _ _ => trivial) ?_ ?_ ?_ _ [] _ ⟨i + 1, rfl, by
    rw [rangeD_len, List.length_nil]
    omega, fun e he => nomatch he⟩
  · rintro x r acc st' ⟨j, rfl, hlen, _⟩
    rw [List.length_cons] at hlen
    exact small_lt (by omega)
  · rintro x r acc st' P ⟨j, rfl, hlen, ha⟩ hP
    refine element_ok (hs _) fun e j' he => ?_
    rw [List.set_set]
    refine hP e ⟨_, _⟩ ⟨j', rfl, ?_, fun e' he' => ?_⟩
    · rw [List.length_append, List.length_singleton]
      rw [List.length_cons] at hlen
      omega
    · rcases List.mem_append.mp he' with h | h
      · exact ha e' h
      · rw [List.mem_singleton] at h
        rw [h]
        exact he
  · rintro acc st' ⟨j, rfl, hlen, ha⟩
    exact tk' (h acc j (by simpa using hlen) ha)
end
/-! rays -/
abbrev Ray := Rat × Rat
def rayD (r : Ray) : Dt := .tup [fr r.1, fr r.2]
def behind : El → Ray → Ray
  | .gap g, r => (r.1 + g * r.2, r.2)
  | .lens p c, r => (r.1, r.2 - p * (r.1 - c))
  | .prism d, r => (r.1, r.2 + d)
  | .afocal m, r => (m * r.1, r.2 * m⁻¹)
  | .stop _ _, r => r
def blo : Option Rat → Rat → Bool
  | some l, h => decide (h < l)
  | none, _ => false
def bhi : Option Rat → Rat → Bool
  | some u, h => decide (u < h)
  | none, _ => false
def blocks : El → Ray → Bool
  | .stop lo hi, r => blo lo r.1 || bhi hi r.1
  | _, _ => false
def Rb (j : Nat) (r : Ray) : Prop := In (12 * 60 ^ j) (6 * 13 ^ j) r.1 ∧ In (12 * 60 ^ j) (6 * 13 ^ j) r.2
theorem in_pn {j : Nat} {q : Rat} (h : Pn q) : In (12 * 60 ^ j) (6 * 13 ^ j) q := in_le (Nat.le_mul_of_pos_right _ (Nat.pow_pos (by decide))) (in_up (Nat.pow_pos (by decide)) h.in_)
theorem in_st {j D B : Nat} {q : Rat} (h : In D B q) (hD : ∃ k, 0 < k ∧ 12 * 60 ^ (j + 1) = D * k) (hB : B ≤ 6 * 13 ^ (j + 1)) : In (12 * 60 ^ (j + 1)) (6 * 13 ^ (j + 1)) q := by
  obtain ⟨k, hk, e⟩ := hD
  rw [e]
  exact in_le hB (in_up hk h)
theorem rb_behind {j : Nat} {e : El} {r : Ray} (he : ElIn e) (hr : Rb j r) : Rb (j + 1) (behind e r) := by
  have p13 : 1 ≤ 13 ^ j := Nat.pow_pos (by decide)
  have e13 : 13 ^ (j + 1) = 13 * 13 ^ j := by rw [Nat.pow_succ, Nat.mul_comm]
  have d1 : ∃ k, 0 < k ∧ 12 * 60 ^ (j + 1) = (12 * 60 ^ j) * k := ⟨60, by decide, by rw [Nat.pow_succ]; omega⟩
  have d12 : ∃ k, 0 < k ∧ 12 * 60 ^ (j + 1) = (12 * (12 * 60 ^ j)) * k := ⟨5, by decide, by rw [Nat.pow_succ]; omega⟩
  have d60 : ∃ k, 0 < k ∧ 12 * 60 ^ (j + 1) = ((12 * 60 ^ j) * 60) * k := ⟨1, by decide, by rw [Nat.pow_succ]; omega⟩
  have r1 := in_st (j := j) hr.1 d1 (by omega)
  have r2 := in_st (j := j) hr.2 d1 (by omega)
  have u12 : ∀ {B : Nat} {q : Rat}, In (12 * 60 ^ j) B q → In (12 * (12 * 60 ^ j)) B q := fun h => by
    rw [Nat.mul_comm]
    exact in_up (by decide) h
  cases e with
  | gap g => exact ⟨in_st (j := j) (in_add (u12 hr.1) (in_mul (Pn.in_ he) hr.2)) d12 (by omega), r2⟩
  | lens p c => exact ⟨r1, in_st (j := j) (in_sub (u12 hr.2) (in_mul (Pn.in_ he.1) (in_sub hr.1 (in_pn (j := j) he.2)))) d12 (by omega)⟩
  | prism d => exact ⟨r1, in_st (j := j) (in_add hr.2 (in_pn (j := j) he)) d1 (by omega)⟩
  | afocal m => exact ⟨in_st (j := j) (in_mul (Pn.in_ he.1) hr.1) d12 (by omega), in_st (j := j) (in_mul hr.2 (Pn.inv he.2 he.1)) d60 (by omega)⟩
  | stop lo hi => exact ⟨r1, r2⟩
theorem rb_zb {j : Nat} {r : Ray} (hj : j ≤ 8) (hr : Rb j r) : zb r.1 ≤ 86 ∧ zb r.2 ≤ 86 := by
  have a : 6 * 13 ^ j * (12 * 60 ^ j) < 2 ^ 84 := Nat.lt_of_le_of_lt (Nat.mul_le_mul (Nat.mul_le_mul_left _ (Nat.pow_le_pow_right (by decide) hj)) (Nat.mul_le_mul_left _ (Nat.pow_le_pow_right (by decide) hj))) (by decide)
  have b : 12 * 60 ^ j < 2 ^ 84 := Nat.lt_of_le_of_lt (Nat.mul_le_mul_left _ (Nat.pow_le_pow_right (by decide) hj)) (by decide)
  have c : 0 < 12 * 60 ^ j := Nat.mul_pos (by decide) (Nat.pow_pos (by decide))
  exact ⟨in_zb (b := 84) c hr.1 a b (by decide), in_zb (b := 84) c hr.2 a b (by decide)⟩
theorem eqS (a b : Str) : eqD (.str a) (.str b) = decide (a = b) := by
  show (a == b) = _
  rw [Bool.eq_iff_iff]
  simp
theorem shS {s : Str} (h : PyData.canLay0 (.str s) = true) : shD (.str s) := sh_ok (n := 0) (sh_str h)
theorem s_gap : shD (.str ("gap" : Str)) := shS (by decide +kernel)
theorem s_lens : shD (.str ("lens" : Str)) := shS (by decide +kernel)
theorem s_prism : shD (.str ("prism" : Str)) := shS (by decide +kernel)
theorem s_afocal : shD (.str ("afocal" : Str)) := shS (by decide +kernel)
theorem s_stop : shD (.str ("stop" : Str)) := shS (by decide +kernel)
/-- which kind it is -/
def tag : El → Str
  | .gap _ => "gap" | .lens _ _ => "lens" | .prism _ => "prism" | .afocal _ => "afocal" | .stop _ _ => "stop"
theorem s_tag (e : El) : shD (.str (tag e)) := by
  cases e
  · exact s_gap
  · exact s_lens
  · exact s_prism
  · exact s_afocal
  · exact s_stop
theorem str_ne {a b : Str} {A B : Prop} (h : decide (a = b) = false) (hB : B) : if eqD (.str a) (.str b) = true then A else B := by
  rw [eqS, h]
  exact hB
theorem str_eq {a : Str} {A B : Prop} (hA : A) : if eqD (.str a) (.str a) = true then A else B := by
  rw [eqD_self]
  exact hA
theorem str_nn {a : Str} {A B : Prop} (hB : B) : if (!eqD (.str a) (.str a)) = true then A else B := by
  rw [eqD_self]
  exact hB
theorem str_nt {a b : Str} {A B : Prop} (h : decide (a = b) = false) (hA : A) : if (!eqD (.str a) (.str b)) = true then A else B := by
  rw [eqS, h]
  exact hA
theorem ne_lg : decide (("lens" : Str) = "gap") = false := by decide +kernel
theorem ne_pg : decide (("prism" : Str) = "gap") = false := by decide +kernel
theorem ne_ag : decide (("afocal" : Str) = "gap") = false := by decide +kernel
theorem ne_sg : decide (("stop" : Str) = "gap") = false := by decide +kernel
theorem ne_pl : decide (("prism" : Str) = "lens") = false := by decide +kernel
theorem ne_al : decide (("afocal" : Str) = "lens") = false := by decide +kernel
theorem ne_sl : decide (("stop" : Str) = "lens") = false := by decide +kernel
theorem ne_ap : decide (("afocal" : Str) = "prism") = false := by decide +kernel
theorem ne_sp : decide (("stop" : Str) = "prism") = false := by decide +kernel
theorem ne_sa : decide (("stop" : Str) = "afocal") = false := by decide +kernel
theorem ne_gs : decide (("gap" : Str) = "stop") = false := by decide +kernel
theorem ne_ls : decide (("lens" : Str) = "stop") = false := by decide +kernel
theorem ne_ps : decide (("prism" : Str) = "stop") = false := by decide +kernel
theorem ne_as : decide (("afocal" : Str) = "stop") = false := by decide +kernel
section
variable {st : List Cell} {Q : Vl → List Cell → Prop}
theorem inv_fr {m : Rat} (hm : m ≠ 0) : Rat.divInt m.den m.num = m⁻¹ := by
  conv => rhs; rw [← Rat.num_divInt_den m]
  rw [inv_divInt]
theorem zb_inv {m : Rat} : zb m⁻¹ ≤ zb m := by
  have h : m⁻¹ = Rat.divInt m.den m.num := by
    conv => lhs; rw [← Rat.num_divInt_den m]
    rw [inv_divInt]
  by_cases hm : m = 0
  · rw [hm, Rat.inv_zero]
    exact Nat.le_refl _
  · rw [h]
    have := zb_divInt (n := (m.den : Int)) (num_nz hm)
    rw [Int.natAbs_natCast] at this
    unfold zb at this ⊢
    omega
theorem lbehind_ok {e : El} {r : Ray} (he : ElIn e) (h1 : zb r.1 ≤ 86) (h2 : zb r.2 ≤ 86) (h : Q (.d (rayD (behind e r))) st) : sp__law_behind [.d (elD e), .d (rayD r)] st Q := by
  unfold sp__law_behind
  cases e with
  | gap g =>
    have zg := Pn.zb he
    have m1 := zb_mul g r.2
    refine ⟨rfl, s_gap, s_gap, str_eq ?_⟩
    refine lmul_ok (by omega) ?_
    refine ladd_ok (by omega) ?_
    exact ⟨lineN rfl, tk h⟩
  | lens p c =>
    have zp := Pn.zb he.1
    have zc := Pn.zb he.2
    refine ⟨rfl, s_lens, s_gap, str_ne ne_lg ?_⟩
    refine ⟨s_lens, s_lens, str_eq ?_⟩
    have m1 := zb_sub r.1 c
    refine lsub_ok (by omega) ?_
    have m2 := zb_mul p (r.1 - c)
    refine lmul_ok (by omega) ?_
    refine lsub_ok (by omega) ?_
    exact ⟨lineN rfl, tk h⟩
  | prism d =>
    have zg := Pn.zb he
    refine ⟨rfl, s_prism, s_gap, str_ne ne_pg ?_⟩
    refine ⟨s_prism, s_lens, str_ne ne_pl ?_⟩
    refine ⟨s_prism, s_prism, str_eq ?_⟩
    refine ladd_ok (by omega) ?_
    exact ⟨lineN rfl, tk h⟩
  | afocal m =>
    have zg := Pn.zb he.1
    refine ⟨rfl, s_afocal, s_gap, str_ne ne_ag ?_⟩
    refine ⟨s_afocal, s_lens, str_ne ne_al ?_⟩
    refine ⟨s_afocal, s_prism, str_ne ne_ap ?_⟩
    refine ⟨s_afocal, s_afocal, str_eq ?_⟩
    refine lmul_ok (by omega) ?_
    refine lfr_ok (num_nz he.2) (pow_le (a := 9) (by decide) (sz_num zg)) ?_
    rw [inv_fr he.2]
    have := @zb_inv m
    refine lmul_ok (by omega) ?_
    exact ⟨lineN rfl, tk h⟩
  | stop lo hi =>
    refine ⟨rfl, s_stop, s_gap, str_ne ne_sg ?_⟩
    refine ⟨s_stop, s_lens, str_ne ne_sl ?_⟩
    refine ⟨s_stop, s_prism, str_ne ne_sp ?_⟩
    refine ⟨s_stop, s_afocal, str_ne ne_sa ?_⟩
    exact tk h
/-- the bounds of a stop are small -/
def Zo (n : Nat) (o : Option Rat) : Prop := ∀ q, o = some q → zb q ≤ n
theorem ElIn.zo {lo hi : Option Rat} (h : ElIn (.stop lo hi)) : Zo 10 lo ∧ Zo 10 hi := ⟨fun q e => in_zb (b := 8) (by decide) (h.1 q e) (by decide) (by decide) (by decide), fun q e => in_zb (b := 8) (by decide) (h.2 q e) (by decide) (by decide) (by decide)⟩
theorem lblocks_ok {e : El} {r : Ray} (he : ElIn e) (h1 : zb r.1 ≤ 1000000) (h : Q (.d (.bl (blocks e r))) st) : sp__law_blocks [.d (elD e), .d (rayD r)] st Q := by
  unfold sp__law_blocks
  have no : ∀ {s : Str}, decide (s = "stop") = false → True := fun _ => trivial
  cases e with
  | gap g => exact ⟨rfl, s_gap, s_stop, str_nt ne_gs (tk h)⟩
  | lens p c => exact ⟨rfl, s_lens, s_stop, str_nt ne_ls (tk h)⟩
  | prism d => exact ⟨rfl, s_prism, s_stop, str_nt ne_ps (tk h)⟩
  | afocal m => exact ⟨rfl, s_afocal, s_stop, str_nt ne_as (tk h)⟩
  | stop lo hi =>
    obtain ⟨z1, z2⟩ := ElIn.zo he
    refine ⟨rfl, s_stop, s_stop, str_nn ?_⟩
    have two : blo lo r.1 = false → dRet (dAndV (dNotN (dOp RT.rIx (dVar 0) (dC (.int 2)))) (dCall PG.sp__law_less [] (dCons (dOp RT.rIx (dVar 0) (dC (.int 2))) (dCons (dOp RT.rIx (dVar 1) (dC (.int 0))) dNil)))) (endsOf false st.length Q) ⟨[some (.d (elD (.stop lo hi))), some (.d (rayD r))], st⟩ := fun hb => by
      have e : blocks (.stop lo hi) r = bhi hi r.1 := by
        show (blo lo r.1 || bhi hi r.1) = _
        rw [hb, Bool.false_or]
      rw [e] at h
      cases hi with
      | none => exact tk h
      | some u =>
        have := z2 u rfl
        exact less_ok (x := u) (y := r.1) (zm (by omega)) (tk h)
    cases lo with
    | none => exact two rfl
    | some l =>
      have := z1 l rfl
      refine less_ok (x := r.1) (y := l) (zm (by omega)) ?_
      show if (decide (r.1 < l)) = true then _ else _
      by_cases c : r.1 < l
      · rw [if_pos (decide_eq_true c)]
        have e : blocks (.stop (some l) hi) r = true := by
          unfold blocks blo
          simp [c]
        rw [e] at h
        exact tk h
      · rw [if_neg (by simpa using c)]
        exact two (by unfold blo; simp [c])
/-- as long as there are bounds -/
def ElZ (n : Nat) : El → Prop
  | .gap g => zb g ≤ n
  | .lens p c => zb p ≤ n ∧ zb c ≤ n
  | .prism d => zb d ≤ n
  | .afocal m => zb m ≤ n ∧ m ≠ 0
  | .stop lo hi => Zo n lo ∧ Zo n hi
theorem ElIn.z {e : El} (h : ElIn e) : ElZ 10 e := by
  cases e with
  | gap g => exact Nat.le_trans (Pn.zb h) (by decide)
  | lens p c => exact ⟨Nat.le_trans (Pn.zb h.1) (by decide), Nat.le_trans (Pn.zb h.2) (by decide)⟩
  | prism d => exact Nat.le_trans (Pn.zb h) (by decide)
  | afocal m => exact ⟨Nat.le_trans (Pn.zb h.1) (by decide), h.2⟩
  | stop lo hi => exact ElIn.zo h
theorem passes_ok {lo hi : Option Rat} {q : Rat} {n : Nat} (h1 : Zo n lo) (h2 : Zo n hi) (hn : n + zb q < 1000000) (h : Q (.d (.bl (!(blo lo q || bhi hi q)))) st) : sp_passes_stop [.d (elD (.stop lo hi)), .d (fr q)] st Q := by
  unfold sp_passes_stop
  refine ⟨rfl, ?_⟩
  have two : blo lo q = false → dRet (dOrV (dIsN (dOp RT.rIx (dVar 0) (dC (.int 2)))) (dCall PG.sp_is_at_most [] (dCons (dVar 1) (dCons (dOp RT.rIx (dVar 0) (dC (.int 2))) dNil)))) (endsOf false st.length Q) ⟨[some (.d (elD (.stop lo hi))), some (.d (fr q))], st⟩ := fun hb => by
    rw [hb, Bool.false_or] at h
    cases hi with
    | none => exact tk h
    | some u =>
      have := h2 u rfl
      refine is_at_most_ok (x := q) (y := u) (zm (by omega)) (tk ?_)
      have e : (!bhi (some u) q) = decide (q ≤ u) := by
        show (!decide (u < q)) = decide (q ≤ u)
        rw [← decide_not]
        exact decide_eq_decide.mpr Rat.not_lt
      rw [← e]
      exact h
  cases lo with
  | none => exact two rfl
  | some l =>
    have := h1 l rfl
    refine is_at_most_ok (x := l) (y := q) (zm (by omega)) ?_
    show if (!decide (l ≤ q)) = true then _ else _
    by_cases c : l ≤ q
    · rw [decide_eq_true c]
      exact two (by unfold blo; simp [Rat.not_lt, c])
    · rw [decide_eq_false c]
      have e : (!(blo (some l) q || bhi hi q)) = false := by
        unfold blo
        simp [Rat.not_le.mp c]
      rw [e] at h
      exact tk h
/-- a ray behind an element, None if it is blocked -/
def thru (e : El) (r : Ray) : Option Ray := if blocks e r = true then none else some (behind e r)
def oray : Option Ray → Dt
  | none => .non
  | some r => rayD r
theorem gone_ok {e : El} {r : Ray} {n : Nat} (he : ElZ n e) (h1 : zb r.1 ≤ n) (h2 : zb r.2 ≤ n) (hn : n ≤ 400000) (h : Q (.d (oray (thru e r))) st) : sp_gone_through [.d (elD e), .d (rayD r)] st Q := by
  unfold sp_gone_through
  cases e with
  | gap g =>
    have zg : zb g ≤ n := he
    have m1 := zb_mul g r.2
    refine ⟨rfl, rfl, s_gap, s_gap, str_eq ?_⟩
    refine multiply_ok (zm (by omega)) ?_
    refine add_ok (zm (by omega)) ?_
    exact ⟨lineN rfl, tk h⟩
  | lens p c =>
    have zp := he.1
    have zc := he.2
    refine ⟨rfl, rfl, s_lens, s_gap, str_ne ne_lg ?_⟩
    refine ⟨s_lens, s_lens, str_eq ?_⟩
    have m1 := zb_sub r.1 c
    refine subtract_ok (zm (by omega)) ?_
    have m2 := zb_mul p (r.1 - c)
    refine multiply_ok (zm (by omega)) ?_
    refine subtract_ok (zm (by omega)) ?_
    exact ⟨lineN rfl, tk h⟩
  | prism d =>
    have zg : zb d ≤ n := he
    refine ⟨rfl, rfl, s_prism, s_gap, str_ne ne_pg ?_⟩
    refine ⟨s_prism, s_lens, str_ne ne_pl ?_⟩
    refine ⟨s_prism, s_prism, str_eq ?_⟩
    refine add_ok (zm (by omega)) ?_
    exact ⟨lineN rfl, tk h⟩
  | afocal m =>
    have zg := he.1
    refine ⟨rfl, rfl, s_afocal, s_gap, str_ne ne_ag ?_⟩
    refine ⟨s_afocal, s_lens, str_ne ne_al ?_⟩
    refine ⟨s_afocal, s_prism, str_ne ne_ap ?_⟩
    refine ⟨s_afocal, s_afocal, str_eq ?_⟩
    refine multiply_ok (zm (by omega)) ?_
    refine divide_ok he.2 (zm (by omega)) ?_
    rw [Rat.div_def]
    exact ⟨lineN rfl, tk h⟩
  | stop lo hi =>
    refine ⟨rfl, rfl, s_stop, s_gap, str_ne ne_sg ?_⟩
    refine ⟨s_stop, s_lens, str_ne ne_sl ?_⟩
    refine ⟨s_stop, s_prism, str_ne ne_sp ?_⟩
    refine ⟨s_stop, s_afocal, str_ne ne_sa ?_⟩
    refine passes_ok he.1 he.2 (by omega) ?_
    show if (!(blo lo r.1 || bhi hi r.1)) = true then _ else _
    unfold thru blocks at h
    cases c : (blo lo r.1 || bhi hi r.1) with
    | true =>
      simp only [c] at h
      exact tk h
    | false =>
      simp only [c] at h
      exact tk h
end
end PG

set_option maxRecDepth 100000
set_option maxHeartbeats 4000000
namespace PG
open PySem PySem.Spec PyProof.Rows L2 RT
theorem atI_last (xs : List Dt) (x : Dt) : atI (xs ++ [x]) (-1) = some x := by
  unfold atI ixN
  rw [if_neg (by decide), if_pos (by rw [List.length_append, List.length_singleton]; omega)]
  show (xs ++ [x])[((-1 : Int) + ((xs ++ [x]).length : Int)).toNat]? = some x
  have e : ((-1 : Int) + ((xs ++ [x]).length : Int)).toNat = xs.length := by
    rw [List.length_append, List.length_singleton]
    omega
  rw [e]
  exact getElem_last _ _
theorem atI_map {α : Type} {f : α → Dt} {xs : List α} {k : Nat} {x : α} (h : xs[k]? = some x) : atI (xs.map f) (k : Int) = some (f x) := by
  have hk : k < xs.length := (List.getElem?_eq_some_iff.mp h).1
  unfold atI ixN
  rw [if_pos (by omega), List.length_map, if_pos (by omega)]
  show (xs.map f)[((k : Int)).toNat]? = _
  rw [Int.toNat_natCast, List.getElem?_map, h]
  rfl
theorem enum_inv {α : Type} {i j : Nat} {f : α → Dt} {b : DS} {all : List Dt} {E : DEnds} (I : Nat → List α → M → Prop)
    (hs : ∀ k x r m (K : M → Prop), (∀ m', I (k + 1) r m' → K m') → I k (x :: r) m → b ⟨K, E.rt, E.nx, K⟩ ⟨(m.sl.set i (some (.d (.int k)))).set j (some (.d (f x))), m.st⟩) (hd : ∀ k m, I k [] m → E.nx m) :
    ∀ (xs : List α) (k : Nat) (m : M), I k xs m → dLoop (.tp [i, j]) b all none E (enumD k (xs.map f)) m
  | [], k, m, h => ⟨trivial, hd k m h⟩
  | x :: r, k, m, h => ⟨trivial, rfl, hs k x r m _ (fun m' h' => enum_inv I hs hd r (k + 1) m' h') h⟩
/-! a ray through a train -/
def goes : Nat → List El → List Ray → Ray → List Ray × Option Nat
  | k, [], pre, r => (pre ++ [r], none)
  | k, e :: es, pre, r => if blocks e r = true then (pre ++ [r], some k) else goes (k + 1) es (pre ++ [r]) (behind e r)
def onat : Option Nat → Dt
  | none => .non
  | some k => .int k
def goD (p : List Ray × Option Nat) : Dt := .tup [.lst (p.1.map rayD), onat p.2]
structure Gr (n : Nat) (es : List El) (r0 : Ray) (R : Nat → Ray → Prop) : Prop where
  st : R 0 r0
  step : ∀ j e r, j < es.length → e ∈ es → R j r → R (j + 1) (behind e r)
  z : ∀ j r, j ≤ es.length → R j r → zb r.1 ≤ n ∧ zb r.2 ≤ n
theorem gr_rb {es : List El} {r0 : Ray} (h : ∀ e ∈ es, ElIn e) (hl : es.length ≤ 8) (hr : Rb 0 r0) : Gr 86 es r0 Rb := ⟨hr, fun j e r _ he => rb_behind (h e he), fun j r hj => rb_zb (Nat.le_trans hj hl)⟩
theorem fz_st {st : List Cell} {c d : Cell} : ((st ++ [c]).set st.length d).take st.length = st := by
  rw [set_last, List.take_left]
section
variable {st : List Cell} {Q : Vl → List Cell → Prop} {es : List El} {r0 : Ray} {R : Nat → Ray → Prop} {n : Nat}
theorem frz_tk {v : Vl} {c : Cell} {sl : List (Option Vl)} {xs : List Dt} (h : Q v st) : Q v ((frz st.length xs ⟨sl, st ++ [c]⟩).st.take st.length) := by
  show Q v (((st ++ [c]).set st.length .dead).take st.length)
  rw [fz_st]
  exact h
theorem push_ray {pre : List Ray} {r b : Ray} : (st ++ [Cell.lst ((pre ++ [r]).map rayD)]).set st.length (Cell.lst ((pre ++ [r]).map rayD ++ [rayD b])) = st ++ [Cell.lst (((pre ++ [r]) ++ [b]).map rayD)] := by
  rw [set_last, List.map_append (l₁ := pre ++ [r])]
  rfl
theorem last_ray {pre : List Ray} {r : Ray} : atI ((pre ++ [r]).map rayD) (-1) = some (rayD r) := by
  rw [List.map_append]
  exact atI_last _ _
theorem lgo_ok (G : Gr 86 es r0 R) (he : ∀ e ∈ es, ElIn e) (hl : es.length ≤ 1000) (h : Q (.d (goD (goes 0 es [] r0))) st) : sp__law_go [.d (.lst (es.map elD)), .d (rayD r0)] st Q := by
  obtain ⟨res, hres⟩ : ∃ res, goes 0 es [] r0 = res := ⟨_, rfl⟩
  rw [hres] at h
  unfold sp__law_go
  refine ⟨rfl, lineN rfl, ?_⟩
  let S : Option Vl → List Ray → Ray → M := fun z pre r => ⟨[some (.d (.lst (es.map elD))), some (.d (rayD r0)), some (.c st.length), z], st ++ [.lst ((pre ++ [r]).map rayD)]⟩
  refine ⟨?_, range_inv (fun k lo m => ∃ done rest pre r z, es = done ++ rest ∧ rest.length = k ∧ lo = done.length ∧ goes done.length rest pre r = res ∧ R done.length r ∧ pre.length = done.length ∧ m = S z pre r) ?_ ?_ _ 0 _ ⟨[], es, [], r0, none, rfl, ?_, rfl, hres, G.st, rfl, rfl⟩⟩
  · rw [List.length_map]
    exact ⟨by omega, by omega⟩
  · rintro k lo m K hK ⟨done, rest, pre, r, z, e1, e2, rfl, e3, hr, hp, rfl⟩
    cases rest with
    | nil => cases e2
    | cons e rest =>
      have hj : done.length < es.length := by
        rw [e1, List.length_append, List.length_cons]
        omega
      have hm : e ∈ es := by
        rw [e1]
        exact List.mem_append_right _ List.mem_cons_self
      have at_ : es[done.length]? = some e := by
        rw [e1]
        simp
      obtain ⟨z1, z2⟩ := G.z _ _ (by omega) hr
      refine rIx_mk (atI_map at_) ?_
      refine onV_c (getElem_last _ _) ?_
      refine rIx_mk last_ray ?_
      refine lblocks_ok (he e hm) (by omega) ?_
      show if blocks e r = true then _ else _
      unfold goes at e3
      by_cases c : blocks e r = true
      · rw [if_pos c]
        rw [if_pos c] at e3
        rw [← e3] at h
        refine onC_mk (getElem_last _ _) ?_
        refine ⟨lineN rfl, ?_⟩
        exact frz_tk h
      · rw [if_neg c]
        rw [if_neg c] at e3
        refine ⟨⟨_, getElem_last _ _⟩, ?_⟩
        refine rIx_mk (atI_map at_) ?_
        refine onV_c (getElem_last _ _) ?_
        refine rIx_mk last_ray ?_
        refine lbehind_ok (he e hm) z1 z2 ?_
        refine onC_mk (getElem_last _ _) ⟨?_, ?_⟩
        · exact small_lt (by rw [List.length_map, List.length_append, List.length_singleton]; omega)
        · refine hK _ ⟨done ++ [e], rest, pre ++ [r], behind e r, some (.d (.int done.length)), ?_, ?_, ?_, ?_, ?_, ?_, ?_⟩
          · rw [e1, List.append_assoc]
            rfl
          · simpa using e2
          · rw [List.length_append, List.length_singleton]
            rfl
          · rw [List.length_append, List.length_singleton]
            exact e3
          · rw [List.length_append, List.length_singleton]
            exact G.step _ _ _ hj hm hr
          · rw [List.length_append, List.length_append, List.length_singleton, List.length_singleton, hp]
          · exact congrArg (M.mk _) push_ray
  · rintro lo m ⟨done, rest, pre, r, z, e1, e2, rfl, e3, hr, hp, rfl⟩
    have e : rest = [] := List.eq_nil_of_length_eq_zero e2
    subst e
    unfold goes at e3
    rw [← e3] at h
    refine onC_mk (getElem_last _ _) ?_
    refine ⟨lineN rfl, ?_⟩
    exact frz_tk h
  · show es.length = ((List.map elD es).length : Int).toNat
    rw [List.length_map]
    omega
theorem goes_len : ∀ (k : Nat) (es : List El) (pre : List Ray) (r : Ray), (goes k es pre r).1.length ≤ pre.length + 1 + es.length
  | k, [], pre, r => by simp [goes]
  | k, e :: es, pre, r => by
    unfold goes
    split
    · simp
    · have := goes_len (k + 1) es (pre ++ [r]) (behind e r)
      rw [List.length_append, List.length_singleton] at this
      rw [List.length_cons]
      omega
theorem trace_ok {N : Nat} (G : Gr N es r0 R) (hN : N ≤ 400000) (he : ∀ e ∈ es, ElZ N e) (hl : es.length ≤ 1000) (h : Q (.d (goD (goes 0 es [] r0))) st) : sp_trace_ray [.d (.lst (es.map elD)), .d (rayD r0)] st Q := by
  obtain ⟨res, hres⟩ : ∃ res, goes 0 es [] r0 = res := ⟨_, rfl⟩
  rw [hres] at h
  unfold sp_trace_ray
  refine ⟨rfl, lineN rfl, ?_⟩
  let S : Option Vl → Option Vl → Option Vl → List Ray → Ray → M := fun z z4 z5 pre r => ⟨[some (.d (.lst (es.map elD))), some (.d (rayD r0)), some (.c st.length), z, z4, z5], st ++ [.lst ((pre ++ [r]).map rayD)]⟩
  refine enum_inv (fun k rest m => ∃ done pre r z z4 z5, es = done ++ rest ∧ k = done.length ∧ goes done.length rest pre r = res ∧ R done.length r ∧ pre.length = done.length ∧ m = S z z4 z5 pre r) ?_ ?_ _ 0 _ ⟨[], [], r0, none, none, none, rfl, rfl, hres, G.st, rfl, rfl⟩
  · rintro k e rest m K hK ⟨done, pre, r, z, z4, z5, e1, rfl, e3, hr, hp, rfl⟩
    have hj : done.length < es.length := by
      rw [e1, List.length_append, List.length_cons]
      omega
    have hm : e ∈ es := by
      rw [e1]
      exact List.mem_append_right _ List.mem_cons_self
    obtain ⟨z1, z2⟩ := G.z _ _ (by omega) hr
    refine onV_c (getElem_last _ _) ?_
    refine rIx_mk last_ray ?_
    refine gone_ok (he e hm) z1 z2 hN ?_
    unfold goes at e3
    by_cases c : blocks e r = true
    · rw [if_pos c] at e3
      rw [← e3] at h
      have ht : thru e r = none := if_pos c
      rw [ht]
      refine onC_mk (getElem_last _ _) ?_
      refine ⟨lineN rfl, ?_⟩
      exact frz_tk h
    · rw [if_neg c] at e3
      have ht : thru e r = some (behind e r) := if_neg c
      rw [ht]
      refine ⟨⟨_, getElem_last _ _⟩, ?_⟩
      refine onC_mk (getElem_last _ _) ⟨small_lt (by rw [List.length_map, List.length_append, List.length_singleton]; omega), ?_⟩
      refine hK _ ⟨done ++ [e], pre ++ [r], behind e r, some (.d (.int done.length)), some (.d (elD e)), some (.d (rayD (behind e r))), ?_, ?_, ?_, ?_, ?_, ?_⟩
      · rw [e1, List.append_assoc]
        rfl
      · rw [List.length_append, List.length_singleton]
      · rw [List.length_append, List.length_singleton]
        exact e3
      · rw [List.length_append, List.length_singleton]
        exact G.step _ _ _ hj hm hr
      · rw [List.length_append, List.length_append, List.length_singleton, List.length_singleton, hp]
      · exact congrArg (M.mk _) push_ray
  · rintro k m ⟨done, pre, r, z, z4, z5, e1, rfl, e3, hr, hp, rfl⟩
    unfold goes at e3
    rw [← e3] at h
    refine onC_mk (getElem_last _ _) ?_
    refine ⟨lineN rfl, ?_⟩
    exact frz_tk h
/-- where it leaves -/
def lastRay (r0 : Ray) (l : List Ray) : Ray := l.getLast?.getD r0
def leaves (es : List El) (r0 : Ray) : Option Ray := match (goes 0 es [] r0).2 with
  | none => some (lastRay r0 (goes 0 es [] r0).1)
  | some _ => none
theorem goes_last : ∀ (k : Nat) (es : List El) (pre : List Ray) (r : Ray), ∃ l x, (goes k es pre r).1 = l ++ [x]
  | k, [], pre, r => ⟨pre, r, rfl⟩
  | k, e :: es, pre, r => by
    unfold goes
    split
    · exact ⟨pre, r, rfl⟩
    · exact goes_last _ _ _ _
theorem at_goes (es : List El) (r0 : Ray) : atI ((goes 0 es [] r0).1.map rayD) (-1) = some (rayD (lastRay r0 (goes 0 es [] r0).1)) := by
  obtain ⟨l, x, e⟩ := goes_last 0 es [] r0
  rw [e, last_ray]
  unfold lastRay
  simp
theorem exit_ok {N : Nat} (G : Gr N es r0 R) (hN : N ≤ 400000) (he : ∀ e ∈ es, ElZ N e) (hl : es.length ≤ 1000) (h : Q (.d (oray (leaves es r0))) st) : sp_exit_ray [.d (.lst (es.map elD)), .d (rayD r0)] st Q := by
  unfold sp_exit_ray
  refine ⟨rfl, trace_ok G hN he hl ?_⟩
  have hat := at_goes es r0
  unfold leaves at h
  unfold goD
  cases c : (goes 0 es [] r0).2 with
  | none =>
    rw [c] at h
    refine ⟨rfl, ?_⟩
    refine rIx_mk hat ?_
    exact tk h
  | some k =>
    rw [c] at h
    refine ⟨rfl, ?_⟩
    exact tk h
end
end PG

set_option maxRecDepth 100000
set_option maxHeartbeats 4000000
namespace PG
open PySem PySem.Spec PyProof.Rows L2 RT
theorem sh_ray {r : Ray} : Sh 2 (rayD r) := sh_tup (all_cons sh_fr (all_cons sh_fr all_nil))
theorem sh_oray {r : Option Ray} : Sh 2 (oray r) := by
  cases r
  · exact sh_non
  · exact sh_ray
theorem sh_onat {o : Option Nat} {n : Nat} : Sh n (onat o) := by
  cases o
  · exact sh_non
  · exact sh_int
theorem sh_goD {p : List Ray × Option Nat} : Sh 4 (goD p) := sh_tup (all_cons (sh_lst (all_map fun _ _ => sh_ray)) (all_cons sh_onat all_nil))
theorem sh_elD {e : El} : Sh 2 (elD e) := by
  have t : Sh 1 (.str (tag e)) := by
    cases e
    · exact sh_str (s := ("gap" : Str)) (by decide +kernel)
    · exact sh_str (s := ("lens" : Str)) (by decide +kernel)
    · exact sh_str (s := ("prism" : Str)) (by decide +kernel)
    · exact sh_str (s := ("afocal" : Str)) (by decide +kernel)
    · exact sh_str (s := ("stop" : Str)) (by decide +kernel)
  cases e with
  | gap g => exact sh_tup (all_cons t (all_cons sh_fr all_nil))
  | lens p c => exact sh_tup (all_cons t (all_cons sh_fr (all_cons sh_fr all_nil)))
  | prism d => exact sh_tup (all_cons t (all_cons sh_fr all_nil))
  | afocal m => exact sh_tup (all_cons t (all_cons sh_fr all_nil))
  | stop lo hi => exact sh_tup (all_cons t (all_cons sh_ofr (all_cons sh_ofr all_nil)))
theorem sh_els {es : List El} : Sh 3 (.lst (es.map elD)) := sh_lst (all_map fun _ _ => sh_elD)
/-- all rays on the way -/
theorem goes_all {n : Nat} {R : Nat → Ray → Prop} {all : List El} {r0 : Ray} (G : Gr n all r0 R) : ∀ (done es : List El) (pre : List Ray) (r : Ray), all = done ++ es → R done.length r → (∀ x ∈ pre, zb x.1 ≤ n ∧ zb x.2 ≤ n) → ∀ x ∈ (goes done.length es pre r).1, zb x.1 ≤ n ∧ zb x.2 ≤ n
  | done, [], pre, r, e, hr, hp, x, hx => by
    unfold goes at hx
    rcases List.mem_append.mp hx with h | h
    · exact hp x h
    · rw [List.mem_singleton] at h
      rw [h]
      exact G.z _ _ (by rw [e, List.length_append]; omega) hr
  | done, e0 :: es, pre, r, e, hr, hp, x, hx => by
    have hz := G.z _ _ (by rw [e, List.length_append]; omega) hr
    have hp' : ∀ x ∈ pre ++ [r], zb x.1 ≤ n ∧ zb x.2 ≤ n := fun x hx => by
      rcases List.mem_append.mp hx with h | h
      · exact hp x h
      · rw [List.mem_singleton] at h
        rw [h]
        exact hz
    unfold goes at hx
    split at hx
    · exact hp' x hx
    · refine goes_all G (done ++ [e0]) es (pre ++ [r]) (behind e0 r) ?_ ?_ hp' x ?_
      · rw [e, List.append_assoc]
        rfl
      · rw [List.length_append, List.length_singleton]
        exact G.step _ _ _ (by rw [e, List.length_append, List.length_cons]; omega) (by rw [e]; exact List.mem_append_right _ List.mem_cons_self) hr
      · rw [List.length_append, List.length_singleton]
        exact hx
theorem ray_ok {ds : List Int} {i k : Nat} {st : List Cell} {Q : Vl → List Cell → Prop} (hk : st[k]? = some (Bx ds i)) (h : ∀ r : Ray, Pn r.1 → Pn r.2 → Q (.d (rayD r)) (st.set k (Bx ds (i + 4)))) : sp__law_ray [.c k] st Q := by
  have hlt : k < st.length := (List.getElem?_eq_some_iff.mp hk).1
  have hs : ∀ c : Cell, (st.set k c)[k]? = some c := fun c => by simp [hlt]
  have hl : ∀ c : Cell, (st.set k c).length = st.length := fun c => List.length_set
  unfold sp__law_ray
  refine ⟨rfl, sm_ok hk fun a ha => ?_⟩
  refine sm_ok (hs _) fun b hb => ?_
  rw [List.set_set]
  refine ⟨lineN rfl, ?_⟩
  have := h (a, b) ha hb
  rw [← hl (Bx ds (i + 4))]
  exact tk this
theorem rb0 {r : Ray} (h1 : Pn r.1) (h2 : Pn r.2) : Rb 0 r := ⟨in_pn (j := 0) h1, in_pn (j := 0) h2⟩
/-- one's own copy -/
theorem copy_ok {α : Type} {f : α → Dt} {i : Nat} {xs : List α} {m : M} {Q : Vl → M → Prop} {t : DE} (hx : xs.length ≤ 100000) (hi : i < m.sl.length) (ht : ∀ K : Vl → M → Prop, K (.d (.lst (xs.map f))) m → t m K) (h : Q (.d (.lst (xs.map f))) m) : dLc false (dAny t) (.nm i) dYes (dVar i) [i] m Q := by
  refine ht _ ?_
  refine lc_inv (lk := none) f (fun r acc st => st = m.st ∧ ∃ rest, r = rest.map f ∧ acc ++ rest = xs) (fun _ _ _ _ => trivial) ?_ ?_ ?_ _ [] _ ⟨rfl, xs, rfl, rfl⟩
  · rintro x r acc st ⟨_, rest, e1, e2⟩
    have : acc.length + rest.length = xs.length := by rw [← e2, List.length_append]
    exact small_lt (by omega)
  · rintro x r acc st P ⟨rfl, rest, e1, e2⟩ hP
    cases rest with
    | nil => cases e1
    | cons a rest =>
      injection e1 with e3 e4
      subst e3
      have hv : ((wipeD m.sl [i]).set i (some (.d (f a))))[i]? = some (some (.d (f a))) := by
        unfold wipeD wipeD
        simp [hi]
      show (match ((wipeD m.sl [i]).set i (some (.d (f a))))[i]? with | some (some v) => P v _ | _ => False)
      simp only [hv]
      exact hP a _ ⟨rfl, rest, e4, by rw [← e2, List.append_assoc]; rfl⟩
  · rintro acc st ⟨rfl, rest, e1, e2⟩
    have : rest = [] := by simpa using e1.symm
    subst this
    rw [List.append_nil] at e2
    rw [e2]
    exact h
def Inv2 (s : Dt) (ds : List Int) (m : M) : Prop := ∃ (i : Nat) (rest : List Cell) (z2 z3 z4 z5 z6 z7 z8 z9 z10 z11 z12 z13 : Option Vl), m = ⟨[some (.d s), some (.c 0), z2, z3, z4, z5, z6, z7, z8, z9, z10, z11, z12, z13], Bx ds i :: rest⟩
theorem law_k02 : LawD 63 sp_law_3 := fun ns hl hb => by
  unfold sp_law_3
  refine ⟨rfl, ?_⟩
  refine digits_ok hb (by decide) (by decide) (by decide) fun ds hd hdl => ?_
  refine ⟨lineN rfl, ?_⟩
  dsimp only
  let sc : Dt := .lst (ns.map .int)
  refine ⟨⟨by decide, by decide⟩, range_inv (fun _ _ m => Inv2 sc ds m) ?_ ?_ 2 0 _ ⟨0, [], none, none, none, none, none, none, none, none, none, none, none, none, rfl⟩⟩
  · rintro n lo _ K hK ⟨i, rest, z2, z3, z4, z5, z6, z7, z8, z9, z10, z11, z12, z13, rfl⟩
    refine train_ok (n := 8) (by decide) (k := 0) (i := i) (ds := ds) rfl fun es i1 hlen hes => ?_
    refine ray_ok (k := 0) (i := i1) (ds := ds) rfl fun r0 hr1 hr2 => ?_
    have G := gr_rb hes hlen (rb0 hr1 hr2)
    have hez : ∀ e ∈ es, ElZ 86 e := fun e he => by
      have := (hes e he).z
      revert this
      cases e <;> unfold ElZ Zo <;> grind
    refine lgo_ok G hes (by omega) ?_
    refine ⟨rfl, ?_⟩
    have hgo := goes_all G [] es [] r0 rfl G.st (fun x hx => nomatch hx)
    rw [List.length_nil] at hgo
    have hat := at_goes es r0
    generalize hleav : leaves es r0 = lv
    unfold leaves at hleav
    generalize hp : goes 0 es [] r0 = p at *
    let S : Option Vl → Option Vl → Option Vl → Option Vl → Option Vl → Option Vl → Option Vl → Nat → M := fun z7 z8 z9 z10 z11 z12 z13 i => ⟨[some (.d sc), some (.c 0), some (.d (.int lo)), some (.d (.lst (es.map elD))), some (.d (rayD r0)), some (.d (.lst (p.1.map rayD))), some (.d (onat p.2)), z7, z8, z9, z10, z11, z12, z13], Bx ds i :: rest⟩
    dsimp only
    refine set_st (.d (.lst (es.map elD))) (S z7 z8 z9 z10 z11 z12 z13 (i1 + 4)) (fun K hK => copy_ok (by omega) (by show 7 < 14; decide) (fun K' hK' => hK') hK) ?_
    refine set_st (.d (goD p)) (S z7 (some (.d (.lst (es.map elD)))) z9 z10 z11 z12 z13 (i1 + 4)) (fun K hK => trace_ok G (by decide) hez (by omega) (by rw [hp]; exact hK)) ?_
    refine guard_st (S z7 (some (.d (.lst (es.map elD)))) (some (.d (goD p))) z10 z11 z12 z13 (i1 + 4)) (fun K hK => ?_) ?_
    · refine ⟨lineN rfl, sh_ok sh_goD, sh_ok (sh_goD (p := p)), ?_⟩
      show if (!eqD (goD p) (goD p)) = true then _ else _
      rw [neD_self]
      have hbl : isTy .bool (onat p.2) = false := by
        cases p.2 <;> rfl
      show if isTy .bool (onat p.2) = true then _ else _
      rw [hbl]
      refine ⟨sh_ok (sh_els (es := es)), sh_ok (sh_els (es := es)), ?_⟩
      show K (!eqD (.lst (es.map elD)) (.lst (es.map elD))) _
      rw [neD_self]
      exact hK
    refine seq_mid (fun m => ∃ z10, m = S z7 (some (.d (.lst (es.map elD)))) (some (.d (goD p))) z10 z11 z12 z13 (i1 + 4)) (fun K' hK' => ?_) ?_
    · refine each_inv (lk := none) rayD (fun r m => (∃ z10, m = S z7 (some (.d (.lst (es.map elD)))) (some (.d (goD p))) z10 z11 z12 z13 (i1 + 4)) ∧ ∀ x ∈ r, zb x.1 ≤ 86 ∧ zb x.2 ≤ 86) (fun _ _ _ => trivial) ?_ ?_ p.1 _ ⟨⟨z10, rfl⟩, hgo⟩
      · rintro x r _ K3 hK3 ⟨⟨z10, rfl⟩, hx⟩
        obtain ⟨x1, x2⟩ := hx x List.mem_cons_self
        refine isfr_ok (pow_le (a := 86) (by decide) (zb_lt x1).2) ?_
        refine isfr_ok (pow_le (a := 86) (by decide) (zb_lt x2).2) ?_
        exact hK3 _ ⟨⟨some (.d (rayD x)), rfl⟩, fun y hy => hx y (List.mem_cons_of_mem _ hy)⟩
      · rintro _ ⟨⟨z10, rfl⟩, _⟩
        exact hK' _ ⟨z10, rfl⟩
    rintro _ ⟨z10', rfl⟩
    refine set_st (.d (rayD (lastRay r0 p.1))) (S z7 (some (.d (.lst (es.map elD)))) (some (.d (goD p))) z10' z11 z12 z13 (i1 + 4)) (fun K hK => rIx_mk hat hK) ?_
    refine seq_mid (fun m => m = S z7 (some (.d (.lst (es.map elD)))) (some (.d (goD p))) z10' (some (.d (oray lv))) z12 z13 (i1 + 4)) (fun K' hK' => ?_) ?_
    · show if (!isN (onat p.2)) = true then _ else _
      cases c : p.2 with
      | none =>
        rw [c] at hleav
        subst hleav
        exact hK' _ rfl
      | some k =>
        rw [c] at hleav
        subst hleav
        exact hK' _ rfl
    rintro _ rfl
    refine guard_st (S z7 (some (.d (.lst (es.map elD)))) (some (.d (goD p))) z10' (some (.d (oray lv))) z12 z13 (i1 + 4)) (fun K' hK' => ?_) ?_
    · refine exit_ok G (by decide) hez (by omega) ?_
      have hlv : leaves es r0 = lv := by
        unfold leaves
        rw [hp]
        exact hleav
      rw [hlv]
      refine ⟨sh_ok sh_oray, sh_ok sh_oray, ?_⟩
      show K' (!eqD (oray lv) (oray lv)) _
      rw [neD_self]
      exact hK'
    refine element_ok (k := 0) (i := i1 + 4) (ds := ds) rfl fun e i2 he => ?_
    obtain ⟨q1, q2⟩ := rb_zb (j := 0) (by decide) (rb0 hr1 hr2)
    refine lbehind_ok he q1 q2 ?_
    dsimp only
    refine seq_mid (fun m => m = S (some (.d (elD e))) (some (.d (.lst (es.map elD)))) (some (.d (goD p))) z10' (some (.d (oray lv))) (some (.d (oray (thru e r0)))) z13 i2) (fun K' hK' => ?_) ?_
    · refine lblocks_ok he (by omega) ?_
      show if blocks e r0 = true then _ else _
      unfold thru at hK'
      by_cases c : blocks e r0 = true
      · rw [if_pos c]
        rw [if_pos c] at hK'
        exact hK' _ rfl
      · rw [if_neg c]
        rw [if_neg c] at hK'
        exact hK' _ rfl
    rintro _ rfl
    refine guard_st (S (some (.d (elD e))) (some (.d (.lst (es.map elD)))) (some (.d (goD p))) z10' (some (.d (oray lv))) (some (.d (oray (thru e r0)))) z13 i2) (fun K' hK' => ?_) ?_
    · have hez1 : ElZ 86 e := by
        have := he.z
        revert this
        cases e <;> unfold ElZ Zo <;> grind
      refine gone_ok hez1 q1 q2 (by decide) ?_
      refine ⟨sh_ok sh_oray, sh_ok sh_oray, ?_⟩
      show K' (!eqD (oray (thru e r0)) (oray (thru e r0))) _
      rw [neD_self]
      exact hK'
    refine stop_ok (k := 0) (i := i2) (ds := ds) rfl fun l u i3 hst => ?_
    dsimp only
    refine guard_end (Inv2 sc ds) (fun K' hK' => ?_) hK
    refine passes_ok (n := 10) (hst.zo).1 (hst.zo).2 (by omega) ?_
    refine lblocks_ok (r := r0) hst (by omega) ?_
    refine ⟨sh_ok (n := 0) sh_bl, sh_ok (n := 0) sh_bl, ?_⟩
    show K' (!eqD (.bl (!(blo l r0.1 || bhi u r0.1))) (.bl (!blocks (.stop l u) r0))) _
    have eb : blocks (.stop l u) r0 = (blo l r0.1 || bhi u r0.1) := rfl
    rw [eb, neD_self]
    exact hK' _ ⟨_, _, _, _, _, _, _, _, _, _, _, _, _, _, rfl⟩
  · rintro lo _ ⟨i, rest, z2, z3, z4, z5, z6, z7, z8, z9, z10, z11, z12, z13, rfl⟩
    exact rfl
end PG

set_option maxRecDepth 100000
set_option maxHeartbeats 4000000
namespace PG
open PySem PySem.Spec PyProof.Rows L2 RT
/-! maps of trains -/
structure Mp where
  a : Rat
  b : Rat
  c : Rat
  d : Rat
  e : Rat
  f : Rat
def mpD (m : Mp) : Dt := .tup [fr m.a, fr m.b, fr m.c, fr m.d, fr m.e, fr m.f]
def idM : Mp := ⟨1, 0, 0, 1, 0, 0⟩
def appM (m : Mp) (r : Ray) : Ray := (m.a * r.1 + m.b * r.2 + m.e, m.c * r.1 + m.d * r.2 + m.f)
def comp (x y : Mp) : Mp := ⟨y.a * x.a + y.b * x.c, y.a * x.b + y.b * x.d, y.c * x.a + y.d * x.c, y.c * x.b + y.d * x.d, y.a * x.e + y.b * x.f + y.e, y.c * x.e + y.d * x.f + y.f⟩
def invM (m : Mp) : Mp := ⟨m.d, -m.b, -m.c, m.a, m.b * m.f - m.d * m.e, m.c * m.e - m.a * m.f⟩
def elM : El → Mp
  | .gap g => ⟨1, g, 0, 1, 0, 0⟩
  | .lens p c => ⟨1, 0, -p, 1, 0, p * c⟩
  | .prism d => ⟨1, 0, 0, 1, 0, d⟩
  | .afocal m => ⟨m, 0, 0, 1 / m, 0, 0⟩
  | .stop _ _ => idM
def det (m : Mp) : Rat := m.a * m.d - m.b * m.c
def transfer (es : List El) : Mp := es.foldl (fun m e => comp m (elM e)) idM
theorem Mp.ext {x y : Mp} (h1 : x.a = y.a) (h2 : x.b = y.b) (h3 : x.c = y.c) (h4 : x.d = y.d) (h5 : x.e = y.e) (h6 : x.f = y.f) : x = y := by
  cases x
  cases y
  simp_all
theorem comp_id (m : Mp) : comp idM m = m := by
  refine Mp.ext ?_ ?_ ?_ ?_ ?_ ?_ <;> simp [comp, idM] <;> grind
theorem id_comp (m : Mp) : comp m idM = m := by
  refine Mp.ext ?_ ?_ ?_ ?_ ?_ ?_ <;> simp [comp, idM] <;> grind
theorem comp_assoc (x y z : Mp) : comp (comp x y) z = comp x (comp y z) := by
  refine Mp.ext ?_ ?_ ?_ ?_ ?_ ?_ <;> simp only [comp] <;> grind
theorem app_comp (x y : Mp) (r : Ray) : appM (comp x y) r = appM y (appM x r) := by
  refine Prod.ext ?_ ?_ <;> simp only [comp, appM] <;> grind
theorem app_id (r : Ray) : appM idM r = r := by
  refine Prod.ext ?_ ?_ <;> simp only [idM, appM] <;> grind
theorem det_comp (x y : Mp) : det (comp x y) = det x * det y := by
  simp only [det, comp]
  grind
/-- as the model has it: an afocal element is not 0 -/
def ElOk : El → Prop
  | .afocal m => m ≠ 0
  | _ => True
theorem ElIn.ok {e : El} (h : ElIn e) : ElOk e := by
  cases e <;> first | trivial | exact h.2
theorem det_el {e : El} (h : ElOk e) : det (elM e) = 1 := by
  cases e with
  | afocal m =>
    have h : m ≠ 0 := h
    simp only [det, elM]
    grind
  | _ => simp only [det, elM, idM] <;> grind
theorem app_el {e : El} {r : Ray} : appM (elM e) r = behind e r := by
  cases e <;> (refine Prod.ext ?_ ?_ <;> simp only [elM, appM, behind, idM] <;> grind)
theorem fold_comp : ∀ (es : List El) (m : Mp), es.foldl (fun m e => comp m (elM e)) m = comp m (transfer es)
  | [], m => by rw [transfer]; simp only [List.foldl_nil]; rw [id_comp]
  | e :: es, m => by
    rw [transfer, List.foldl_cons, List.foldl_cons, fold_comp es, fold_comp es, comp_id, comp_assoc]
theorem transfer_cons (e : El) (es : List El) : transfer (e :: es) = comp (elM e) (transfer es) := by
  rw [transfer, List.foldl_cons, fold_comp, comp_id]
theorem transfer_append (xs ys : List El) : transfer (xs ++ ys) = comp (transfer xs) (transfer ys) := by
  rw [transfer, List.foldl_append, fold_comp]
  rfl
theorem transfer_one (e : El) : transfer [e] = elM e := by
  rw [transfer_cons]
  exact id_comp _
theorem det_transfer : ∀ {es : List El}, (∀ e ∈ es, ElOk e) → det (transfer es) = 1
  | [], _ => by
    show det idM = 1
    simp only [det, idM]
    grind
  | e :: es, h => by
    rw [transfer_cons, det_comp, det_el (h e List.mem_cons_self), det_transfer fun x hx => h x (List.mem_cons_of_mem _ hx)]
    grind
theorem comp_inv {m : Mp} (h : det m = 1) : comp m (invM m) = idM := by
  simp only [det] at h
  refine Mp.ext ?_ ?_ ?_ ?_ ?_ ?_ <;> simp only [comp, invM, idM] <;> grind
theorem inv_comp {m : Mp} (h : det m = 1) : comp (invM m) m = idM := by
  simp only [det] at h
  refine Mp.ext ?_ ?_ ?_ ?_ ?_ ?_ <;> simp only [comp, invM, idM] <;> grind
/-- as if there were no stops -/
def opened (es : List El) (r : Ray) : Ray := es.foldl (fun r e => behind e r) r
theorem app_transfer : ∀ (es : List El) (r : Ray), appM (transfer es) r = opened es r
  | [], r => app_id r
  | e :: es, r => by
    rw [transfer_cons, app_comp, app_el, app_transfer es]
    rfl
theorem goes_open : ∀ (k : Nat) (es : List El) (pre : List Ray) (r : Ray), (goes k es pre r).2 = none → (goes k es pre r).1.getLast? = some (opened es r)
  | k, [], pre, r, _ => by
    unfold goes
    simp [opened]
  | k, e :: es, pre, r, h => by
    unfold goes at h ⊢
    split at h
    · cases h
    · rename_i c
      rw [if_neg c]
      exact goes_open _ _ _ _ h
theorem leaves_open {es : List El} {r x : Ray} (h : leaves es r = some x) : x = opened es r := by
  unfold leaves at h
  split at h
  · rename_i c
    have e := Option.some.inj h
    rw [← e]
    unfold lastRay
    rw [goes_open 0 es [] r c]
    rfl
  · cases h
/-! sizes -/
def MZ (n : Nat) (m : Mp) : Prop := (zb m.a ≤ n ∧ zb m.b ≤ n ∧ zb m.c ≤ n) ∧ zb m.d ≤ n ∧ zb m.e ≤ n ∧ zb m.f ≤ n
def MRb (j : Nat) (m : Mp) : Prop := Rb j (m.a, m.c) ∧ Rb j (m.b, m.d) ∧ Rb j (m.e, m.f)
theorem rb_zb2 {j : Nat} {r : Ray} (hr : Rb j r) : zb r.1 ≤ 9 + 10 * j ∧ zb r.2 ≤ 9 + 10 * j := by
  have p : 780 ^ j ≤ 2 ^ (10 * j) := by
    rw [Nat.pow_mul]
    exact Nat.pow_le_pow_left (by decide) j
  have p60 : 60 ^ j ≤ 2 ^ (10 * j) := by
    rw [Nat.pow_mul]
    exact Nat.pow_le_pow_left (by decide) j
  have e : 6 * 13 ^ j * (12 * 60 ^ j) = 72 * 780 ^ j := by
    rw [show (780 : Nat) = 13 * 60 from rfl, Nat.mul_pow, Nat.mul_mul_mul_comm]
  have e2 : 2 ^ (7 + 10 * j) = 128 * 2 ^ (10 * j) := by rw [Nat.pow_add]
  have e3 : 0 < 2 ^ (10 * j) := Nat.pow_pos (by decide)
  have a : 6 * 13 ^ j * (12 * 60 ^ j) < 2 ^ (7 + 10 * j) := by
    rw [e, e2]
    omega
  have b : 12 * 60 ^ j < 2 ^ (7 + 10 * j) := by
    rw [e2]
    omega
  have c : 0 < 12 * 60 ^ j := Nat.mul_pos (by decide) (Nat.pow_pos (by decide))
  have h1 := in_zb (b := 7 + 10 * j) c hr.1 a b (by omega)
  have h2 := in_zb (b := 7 + 10 * j) c hr.2 a b (by omega)
  exact ⟨by omega, by omega⟩
theorem MRb.z {j : Nat} {m : Mp} (h : MRb j m) : MZ (9 + 10 * j) m := by
  obtain ⟨h1, h2, h3⟩ := h
  have a1 := rb_zb2 h1
  have a2 := rb_zb2 h2
  have a3 := rb_zb2 h3
  exact ⟨⟨a1.1, a2.1, a1.2⟩, a2.2, a3.1, a3.2⟩
/-- an element without its constant -/
def lin : El → El
  | .lens p _ => .lens p 0
  | .prism _ => .prism 0
  | e => e
theorem lin_in {e : El} (h : ElIn e) : ElIn (lin e) := by
  cases e with
  | lens p c => exact ⟨h.1, pn_zero⟩
  | prism d => exact pn_zero
  | gap g => exact h
  | afocal m => exact h
  | stop lo hi => exact h
theorem mrb_comp {j : Nat} {m : Mp} {e : El} (he : ElIn e) (h : MRb j m) : MRb (j + 1) (comp m (elM e)) := by
  obtain ⟨h1, h2, h3⟩ := h
  have a1 := rb_behind (lin_in he) h1
  have a2 := rb_behind (lin_in he) h2
  have a3 := rb_behind he h3
  have hd : ∀ m x : Rat, 1 / m * x = x * m⁻¹ := fun m x => by rw [Rat.div_def]; grind
  refine ⟨?_, ?_, ?_⟩
  · have e1 : ((comp m (elM e)).a, (comp m (elM e)).c) = behind (lin e) (m.a, m.c) := by
      cases e <;> (refine Prod.ext ?_ ?_ <;> simp only [comp, elM, lin, behind, idM, hd] <;> grind)
    rw [e1]
    exact a1
  · have e1 : ((comp m (elM e)).b, (comp m (elM e)).d) = behind (lin e) (m.b, m.d) := by
      cases e <;> (refine Prod.ext ?_ ?_ <;> simp only [comp, elM, lin, behind, idM, hd] <;> grind)
    rw [e1]
    exact a2
  · have e1 : ((comp m (elM e)).e, (comp m (elM e)).f) = behind e (m.e, m.f) := by
      cases e <;> (refine Prod.ext ?_ ?_ <;> simp only [comp, elM, lin, behind, idM, hd] <;> grind)
    rw [e1]
    exact a3
theorem pn_one : Pn 1 := ⟨1, 1, by decide, by decide, by decide, by decide⟩
theorem mrb_id : MRb 0 idM := ⟨rb0 pn_one pn_zero, rb0 pn_zero pn_one, rb0 pn_zero pn_zero⟩
theorem mrb_fold : ∀ {es : List El} {m : Mp} {j : Nat}, (∀ e ∈ es, ElIn e) → MRb j m → MRb (j + es.length) (es.foldl (fun m e => comp m (elM e)) m)
  | [], m, j, _, h => h
  | e :: es, m, j, he, h => by
    rw [List.foldl_cons, List.length_cons, show j + (es.length + 1) = (j + 1) + es.length by omega]
    exact mrb_fold (fun x hx => he x (List.mem_cons_of_mem _ hx)) (mrb_comp (he e List.mem_cons_self) h)
theorem mrb_transfer {es : List El} (h : ∀ e ∈ es, ElIn e) : MRb es.length (transfer es) := by
  have := mrb_fold h mrb_id
  rw [Nat.zero_add] at this
  exact this
end PG

set_option maxRecDepth 100000
set_option maxHeartbeats 4000000
namespace PG
open PySem PySem.Spec PyProof.Rows L2 RT
section
variable {st : List Cell} {Q : Vl → List Cell → Prop}
theorem seq_to {a b : DS} {E : DEnds} {m : M} (m' : M) (h1 : ∀ K : M → Prop, K m' → a ⟨K, E.rt, E.bk, E.ct⟩ m) (h2 : b E m') : dSeq a b E m := h1 _ h2
theorem weighted_ok {a b c d : Rat} (hz : zb a + zb b + (zb c + zb d) < ZM) (h : Q (.d (fr (a * b + c * d))) st) : sp_weighted [.d (fr a), .d (fr b), .d (fr c), .d (fr d)] st Q := by
  unfold sp_weighted
  have h1 := zb_mul a b
  have h2 := zb_mul c d
  refine ⟨rfl, multiply_ok (by omega) ?_⟩
  refine multiply_ok (by omega) ?_
  exact add_ok (by omega) (tk h)
theorem apply_ok {m : Mp} {r : Ray} {n : Nat} (hm : MZ n m) (h1 : zb r.1 ≤ n) (h2 : zb r.2 ≤ n) (hn : n ≤ 1000000) (h : Q (.d (rayD (appM m r))) st) : sp_apply_map [.d (mpD m), .d (rayD r)] st Q := by
  obtain ⟨⟨ha, hb, hc⟩, hd, he, hf⟩ := hm
  unfold sp_apply_map
  refine ⟨rfl, rfl, ?_⟩
  have z : ∀ {a b c d : Rat}, zb a ≤ n → zb b ≤ n → zb c ≤ n → zb d ≤ n → zb (a * b + c * d) ≤ 4 * n := fun {a b c d} q1 q2 q3 q4 => by
    have h1 := zb_mul a b
    have h2 := zb_mul c d
    have h3 := zb_add (a * b) (c * d)
    omega
  refine weighted_ok (zm (by omega)) ?_
  have := z ha h1 hb h2
  refine add_ok (zm (by omega)) ?_
  refine weighted_ok (zm (by omega)) ?_
  have := z hc h1 hd h2
  refine add_ok (zm (by omega)) ?_
  exact ⟨lineN rfl, tk h⟩
theorem z4 {n : Nat} {a b c d : Rat} (q1 : zb a ≤ n) (q2 : zb b ≤ n) (q3 : zb c ≤ n) (q4 : zb d ≤ n) : zb (a * b + c * d) ≤ 4 * n := by
  have h1 := zb_mul a b
  have h2 := zb_mul c d
  have h3 := zb_add (a * b) (c * d)
  omega
theorem z2 {n : Nat} {a b c d : Rat} (q1 : zb a ≤ n) (q2 : zb b ≤ n) (q3 : zb c ≤ n) (q4 : zb d ≤ n) (hn : n ≤ 1000000) : zb a + zb b + (zb c + zb d) < ZM := zm (by omega)
theorem MZ.le {a b : Nat} {m : Mp} (h : MZ a m) (hab : a ≤ b) : MZ b m := by
  unfold MZ at *
  omega
theorem comp_z {n : Nat} {x y : Mp} (hx : MZ n x) (hy : MZ n y) : MZ (5 * n) (comp x y) := by
  obtain ⟨⟨a1, b1, c1⟩, d1, e1, f1⟩ := hx
  obtain ⟨⟨a2, b2, c2⟩, d2, e2, f2⟩ := hy
  have g : ∀ {q p : Rat}, zb q ≤ 4 * n → zb p ≤ n → zb (q + p) ≤ 5 * n := fun {q p} h1 h2 => by
    have := zb_add q p
    omega
  exact ⟨⟨Nat.le_trans (z4 a2 a1 b2 c1) (by omega), Nat.le_trans (z4 a2 b1 b2 d1) (by omega), Nat.le_trans (z4 c2 a1 d2 c1) (by omega)⟩, Nat.le_trans (z4 c2 b1 d2 d1) (by omega), g (z4 a2 e1 b2 f1) e2, g (z4 c2 e1 d2 f1) f2⟩
theorem inv_z {n : Nat} {x : Mp} (hx : MZ n x) : MZ (4 * n) (invM x) := by
  obtain ⟨⟨a1, b1, c1⟩, d1, e1, f1⟩ := hx
  have g : ∀ {a b c d : Rat}, zb a ≤ n → zb b ≤ n → zb c ≤ n → zb d ≤ n → zb (a * b - c * d) ≤ 4 * n := fun {a b c d} q1 q2 q3 q4 => by
    have h1 := zb_mul a b
    have h2 := zb_mul c d
    have h3 := zb_sub (a * b) (c * d)
    omega
  have hb := zb_neg x.b
  have hc := zb_neg x.c
  refine ⟨⟨?_, ?_, ?_⟩, ?_, g b1 f1 d1 e1, g c1 e1 a1 f1⟩
  · show zb x.d ≤ _
    omega
  · show zb (-x.b) ≤ _
    omega
  · show zb (-x.c) ≤ _
    omega
  · show zb x.a ≤ _
    omega
theorem compose_ok {x y : Mp} {n : Nat} (hx : MZ n x) (hy : MZ n y) (hn : n ≤ 1000000) (h : Q (.d (mpD (comp x y))) st) : sp_compose_maps [.d (mpD x), .d (mpD y)] st Q := by
  obtain ⟨⟨a1, b1, c1⟩, d1, e1, f1⟩ := hx
  obtain ⟨⟨a2, b2, c2⟩, d2, e2, f2⟩ := hy
  unfold sp_compose_maps
  refine ⟨rfl, ?_⟩
  let d : Rat → Option Vl := fun q => some (.d (fr q))
  let S : Option Vl → Option Vl → Option Vl → M := fun u v w => ⟨[some (.d (mpD x)), some (.d (mpD y)), d x.a, d x.b, d x.c, d x.d, d x.e, d x.f, d y.a, d y.b, d y.c, d y.d, d y.e, d y.f, u, v, w], st⟩
  refine seq_to ⟨[some (.d (mpD x)), some (.d (mpD y)), d x.a, d x.b, d x.c, d x.d, d x.e, d x.f, none, none, none, none, none, none, none, none, none], st⟩ (fun K hK => ⟨rfl, hK⟩) ?_
  refine seq_to (S none none none) (fun K hK => ⟨rfl, hK⟩) ?_
  refine seq_to (S (some (.d (.tup [fr (y.a * x.a + y.b * x.c), fr (y.a * x.b + y.b * x.d)]))) none none) (fun K hK => weighted_ok (z2 a2 a1 b2 c1 hn) (weighted_ok (z2 a2 b1 b2 d1 hn) ⟨lineN rfl, hK⟩)) ?_
  refine seq_to (S (some (.d (.tup [fr (y.a * x.a + y.b * x.c), fr (y.a * x.b + y.b * x.d)]))) (some (.d (.tup [fr (y.c * x.a + y.d * x.c), fr (y.c * x.b + y.d * x.d)]))) none) (fun K hK => weighted_ok (z2 c2 a1 d2 c1 hn) (weighted_ok (z2 c2 b1 d2 d1 hn) ⟨lineN rfl, hK⟩)) ?_
  have h1 := z4 a2 e1 b2 f1
  have h2 := z4 c2 e1 d2 f1
  refine seq_to (S (some (.d (.tup [fr (y.a * x.a + y.b * x.c), fr (y.a * x.b + y.b * x.d)]))) (some (.d (.tup [fr (y.c * x.a + y.d * x.c), fr (y.c * x.b + y.d * x.d)]))) (some (.d (.tup [fr (y.a * x.e + y.b * x.f + y.e), fr (y.c * x.e + y.d * x.f + y.f)]))))
    (fun K hK => weighted_ok (z2 a2 e1 b2 f1 hn) (add_ok (zm (by omega)) (weighted_ok (z2 c2 e1 d2 f1 hn) (add_ok (zm (by omega)) ⟨lineN rfl, hK⟩)))) ?_
  exact ⟨lineN rfl, lineN rfl, tk h⟩
theorem invert_ok {x : Mp} {n : Nat} (hx : MZ n x) (hn : n ≤ 1000000) (h : Q (.d (mpD (invM x))) st) : sp_invert_map [.d (mpD x)] st Q := by
  obtain ⟨⟨a1, b1, c1⟩, d1, e1, f1⟩ := hx
  have m : ∀ a b : Rat, zb a ≤ n → zb b ≤ n → zb (a * b) ≤ 2 * n := fun a b q1 q2 => by
    have := zb_mul a b
    omega
  unfold sp_invert_map
  refine ⟨rfl, rfl, ?_⟩
  refine multiply_ok (zm (by omega)) ?_
  refine multiply_ok (zm (by omega)) ?_
  have := m _ _ b1 f1
  have := m _ _ d1 e1
  refine subtract_ok (zm (by omega)) ?_
  refine multiply_ok (zm (by omega)) ?_
  refine multiply_ok (zm (by omega)) ?_
  have := m _ _ c1 e1
  have := m _ _ a1 f1
  refine subtract_ok (zm (by omega)) ?_
  refine ⟨lineN rfl, ?_⟩
  refine negative_ok ?_
  refine negative_ok ?_
  exact ⟨lineN rfl, lineN rfl, tk h⟩
theorem v_one : v_ONE = fr 1 := rfl
theorem v_zero : v_ZERO = fr 0 := rfl
theorem v_id : v_IDENTITY = mpD idM := rfl
theorem elmap_ok {e : El} {n : Nat} (he : ElZ n e) (hn : n ≤ 400000) (h : Q (.d (mpD (elM e))) st) : sp_element_map [.d (elD e)] st Q := by
  unfold sp_element_map
  cases e with
  | gap g => exact ⟨rfl, s_gap, s_gap, str_eq ⟨lineN rfl, tk h⟩⟩
  | lens p c =>
    refine ⟨rfl, s_lens, s_gap, str_ne ne_lg ?_⟩
    refine ⟨s_lens, s_lens, str_eq ?_⟩
    refine negative_ok ?_
    have z1 := he.1
    have z2 := he.2
    refine multiply_ok (zm (by omega)) ?_
    exact ⟨lineN rfl, tk h⟩
  | prism d =>
    refine ⟨rfl, s_prism, s_gap, str_ne ne_pg ?_⟩
    refine ⟨s_prism, s_lens, str_ne ne_pl ?_⟩
    exact ⟨s_prism, s_prism, str_eq ⟨lineN rfl, tk h⟩⟩
  | afocal m =>
    refine ⟨rfl, s_afocal, s_gap, str_ne ne_ag ?_⟩
    refine ⟨s_afocal, s_lens, str_ne ne_al ?_⟩
    refine ⟨s_afocal, s_prism, str_ne ne_ap ?_⟩
    refine ⟨s_afocal, s_afocal, str_eq ?_⟩
    have z1 := he.1
    have o1 : zb 1 ≤ 2 := by decide
    refine divide_ok (x := 1) he.2 (zm (by omega)) ?_
    exact ⟨lineN rfl, tk h⟩
  | stop lo hi =>
    refine ⟨rfl, s_stop, s_gap, str_ne ne_sg ?_⟩
    refine ⟨s_stop, s_lens, str_ne ne_sl ?_⟩
    refine ⟨s_stop, s_prism, str_ne ne_sp ?_⟩
    exact ⟨s_stop, s_afocal, str_ne ne_sa (tk h)⟩
theorem el_z {e : El} (he : ElIn e) {n : Nat} (hn : 10 ≤ n) : ElZ n e := by
  have := he.z
  revert this
  cases e <;> unfold ElZ Zo <;> grind
theorem elM_z {e : El} (he : ElIn e) : MZ 19 (elM e) := by
  have := mrb_comp he mrb_id
  rw [comp_id] at this
  exact this.z
theorem transfer_ok {es : List El} (he : ∀ e ∈ es, ElIn e) (hl : es.length ≤ 10000) (h : Q (.d (mpD (transfer es))) st) : sp_ray_transfer [.d (.lst (es.map elD))] st Q := by
  unfold sp_ray_transfer
  refine ⟨rfl, ?_⟩
  refine each_inv (lk := none) elD (fun r m => ∃ done z, es = done ++ r ∧ m = ⟨[some (.d (.lst (es.map elD))), some (.d (mpD (transfer done))), z], st⟩) (fun _ _ _ => trivial) ?_ ?_ es _ ⟨[], none, rfl, rfl⟩
  · rintro x r _ K hK ⟨done, z, e1, rfl⟩
    have hm : x ∈ es := by
      rw [e1]
      exact List.mem_append_right _ List.mem_cons_self
    have hd : ∀ e ∈ done, ElIn e := fun e h' => he e (by rw [e1]; exact List.mem_append_left _ h')
    have hlen : done.length ≤ 10000 := by
      have : es.length = done.length + (x :: r).length := by rw [e1, List.length_append]
      omega
    refine elmap_ok (el_z (he x hm) (n := 10) (by decide)) (by decide) ?_
    refine compose_ok (n := 100100) ((mrb_transfer hd).z.le (by omega)) ((elM_z (he x hm)).le (by decide)) (by decide) ?_
    refine hK _ ⟨done ++ [x], some (.d (elD x)), by rw [e1, List.append_assoc]; rfl, ?_⟩
    rw [transfer_append, transfer_one]
    rfl
  · rintro _ ⟨done, z, e1, rfl⟩
    rw [List.append_nil] at e1
    rw [← e1]
    exact tk h
theorem lopen_ok {R : Nat → Ray → Prop} {es : List El} {r0 : Ray} (G : Gr 86 es r0 R) (he : ∀ e ∈ es, ElIn e) (h : Q (.d (rayD (opened es r0))) st) : sp__law_open [.d (.lst (es.map elD)), .d (rayD r0)] st Q := by
  obtain ⟨res, hres⟩ : ∃ res, opened es r0 = res := ⟨_, rfl⟩
  rw [hres] at h
  unfold sp__law_open
  refine ⟨rfl, ?_⟩
  refine each_inv (lk := none) elD (fun rest m => ∃ done r z, es = done ++ rest ∧ R done.length r ∧ opened rest r = res ∧ m = ⟨[some (.d (.lst (es.map elD))), some (.d (rayD r)), z], st⟩) (fun _ _ _ => trivial) ?_ ?_ es _ ⟨[], r0, none, rfl, G.st, hres, rfl⟩
  · rintro x rest _ K hK ⟨done, r, z, e1, hr, e2, rfl⟩
    have hj : done.length < es.length := by
      rw [e1, List.length_append, List.length_cons]
      omega
    have hm : x ∈ es := by
      rw [e1]
      exact List.mem_append_right _ List.mem_cons_self
    obtain ⟨z1, z2⟩ := G.z _ _ (by omega) hr
    refine lbehind_ok (he x hm) z1 z2 ?_
    refine hK _ ⟨done ++ [x], behind x r, some (.d (elD x)), by rw [e1, List.append_assoc]; rfl, ?_, e2, rfl⟩
    rw [List.length_append, List.length_singleton]
    exact G.step _ _ _ hj hm hr
  · rintro _ ⟨done, r, z, e1, hr, e2, rfl⟩
    have e3 : r = res := e2
    rw [e3]
    exact tk h
end
end PG

set_option maxRecDepth 100000
set_option maxHeartbeats 4000000
namespace PG
open PySem PySem.Spec PyProof.Rows L2 RT
theorem in_den {D B : Nat} {x : Rat} (hD : 0 < D) (h : In D B x) : x.den ≤ D := by
  obtain ⟨n, e, _⟩ := in_val hD h
  rw [e, Rat.den_divInt, if_neg (by omega), Int.natAbs_natCast]
  exact Nat.div_le_self ..
section
variable {x y : Rat} {st : List Cell} {Q : Vl → List Cell → Prop}
theorem den_nat (hd : x.den * y.den < 2 ^ 200) : ((x.den : Int) * y.den).natAbs < 2 ^ 200 := by
  rw [Int.natAbs_mul, Int.natAbs_natCast, Int.natAbs_natCast]
  exact hd
theorem ladd_ok2 (hz : zb x + zb y < ZM) (hd : x.den * y.den < 2 ^ 200) (h : Q (.d (fr (x + y))) st) : sp__law_add [.d (fr x), .d (fr y)] st Q := by
  unfold sp__law_add
  refine ⟨rfl, mk_nn (zb_num x) (dn y) hz, mk_nn (zb_num y) (dn x) (by omega), mk_nn (dn x) (dn y) hz, ?_⟩
  refine lfr_ok (mul_nn x y) (den_nat hd) (tk ?_)
  rw [← add_val]
  exact h
theorem lsub_ok2 (hz : zb x + zb y < ZM) (hd : x.den * y.den < 2 ^ 200) (h : Q (.d (fr (x - y))) st) : sp__law_sub [.d (fr x), .d (fr y)] st Q := by
  unfold sp__law_sub
  refine ⟨rfl, mk_nn (zb_num x) (dn y) hz, mk_nn (zb_num y) (dn x) (by omega), trivial, mk_nn (dn x) (dn y) hz, ?_⟩
  refine lfr_ok (mul_nn x y) (den_nat hd) (tk ?_)
  rw [← sub_val]
  exact h
theorem lmul_ok2 (hz : zb x + zb y < ZM) (hd : x.den * y.den < 2 ^ 200) (h : Q (.d (fr (x * y))) st) : sp__law_mul [.d (fr x), .d (fr y)] st Q := by
  unfold sp__law_mul
  refine ⟨rfl, mk_nn (zb_num x) (zb_num y) hz, mk_nn (dn x) (dn y) hz, ?_⟩
  refine lfr_ok (mul_nn x y) (den_nat hd) (tk ?_)
  rw [← mul_val]
  exact h
end
theorem sh_mp {m : Mp} : Sh 2 (mpD m) := sh_tup (all_cons sh_fr (all_cons sh_fr (all_cons sh_fr (all_cons sh_fr (all_cons sh_fr (all_cons sh_fr all_nil))))))
theorem den6 {j : Nat} {q : Rat} {B : Nat} (hj : j ≤ 6) (h : In (12 * 60 ^ j) B q) : q.den < 2 ^ 40 := by
  have := in_den (Nat.mul_pos (by decide) (Nat.pow_pos (by decide))) h
  have : 12 * 60 ^ j ≤ 12 * 60 ^ 6 := Nat.mul_le_mul_left _ (Nat.pow_le_pow_right (by decide) hj)
  omega
theorem den_mul_le (x y : Rat) : (x * y).den ≤ x.den * y.den := by
  rw [Rat.mul_def', ← Rat.divInt_ofNat, Rat.den_divInt]
  split
  · rename_i h
    have := x.den_pos
    have := y.den_pos
    have := Nat.mul_pos (by assumption : 0 < x.den) (by assumption : 0 < y.den)
    omega
  · rw [Int.natAbs_natCast]
    exact Nat.div_le_self ..
theorem den80 {x y : Rat} (h1 : x.den < 2 ^ 40) (h2 : y.den < 2 ^ 40) : (x * y).den < 2 ^ 80 := Nat.lt_of_le_of_lt (den_mul_le x y) (Nat.lt_of_lt_of_eq (Nat.mul_lt_mul'' h1 h2) (by decide))
theorem law_k03 : LawD 63 sp_law_4 := fun ns hl hb => by
  unfold sp_law_4
  refine ⟨rfl, ?_⟩
  refine digits_ok hb (by decide) (by decide) (by decide) fun ds hd hdl => ?_
  refine ⟨lineN rfl, ?_⟩
  refine train_ok (n := 6) (by decide) (k := 0) (i := 0) (ds := ds) rfl fun xs i1 hx6 hxs => ?_
  refine train_ok (n := 6) (by decide) (k := 0) (i := i1) (ds := ds) rfl fun ys i2 hy6 hys => ?_
  refine transfer_ok hxs (by omega) ?_
  refine transfer_ok hys (by omega) ?_
  dsimp only
  let sc : Dt := .lst (ns.map .int)
  have rx := mrb_transfer hxs
  have zx : MZ 69 (transfer xs) := rx.z.le (by omega)
  have zy : MZ 69 (transfer ys) := (mrb_transfer hys).z.le (by omega)
  have dt : det (transfer xs) = 1 := det_transfer fun e he => (hxs e he).ok
  have happ : ∀ r, opened xs r = appM (transfer xs) r := fun r => (app_transfer xs r).symm
  have hboth : transfer (xs ++ ys) = comp (transfer xs) (transfer ys) := transfer_append xs ys
  have d1 : (transfer xs).a.den < 2 ^ 40 := den6 hx6 rx.1.1
  have d2 : (transfer xs).b.den < 2 ^ 40 := den6 hx6 rx.2.1.1
  have d3 : (transfer xs).c.den < 2 ^ 40 := den6 hx6 rx.1.2
  have d4 : (transfer xs).d.den < 2 ^ 40 := den6 hx6 rx.2.1.2
  generalize transfer xs = A at *
  generalize transfer ys = B at *
  let S : Option Vl → Option Vl → Option Vl → Option Vl → Option Vl → Option Vl → Option Vl → Nat → M := fun z6 z7 z8 z9 z10 z11 z12 i => ⟨[some (.d sc), some (.c 0), some (.d (.lst (xs.map elD))), some (.d (.lst (ys.map elD))), some (.d (mpD A)), some (.d (mpD B)), z6, z7, z8, z9, z10, z11, z12], [Bx ds i]⟩
  obtain ⟨⟨za, zb', zc⟩, zd, ze, zf⟩ := id zx
  have isf : ∀ {q : Rat} {st : List Cell} {Q : Vl → List Cell → Prop}, zb q ≤ 69 → Q (.d (.bl true)) st → sp__law_is_fr [.d (fr q)] st Q := fun hq h => isfr_ok (pow_le (a := 69) (by decide) (zb_lt hq).2) h
  refine guard_st (S none none none none none none none i2) (fun K hK => ?_) ?_
  · refine ⟨rfl, rfl, ?_⟩
    refine ⟨trivial, isf za ⟨trivial, isf zb' ⟨trivial, isf zc ⟨trivial, isf zd ⟨trivial, isf ze ⟨trivial, isf zf ⟨trivial, ?_⟩⟩⟩⟩⟩⟩⟩
    exact ⟨trivial, hK⟩
  refine guard_st (S none none none none none none none i2) (fun K hK => ?_) ?_
  · refine lmul_ok (by omega) (lmul_ok (by omega) ?_)
    have m1 := zb_mul A.a A.d
    have m2 := zb_mul A.b A.c
    refine lsub_ok2 (zm (by omega)) (Nat.lt_trans (Nat.mul_lt_mul'' (den80 d1 d4) (den80 d2 d3)) (by decide)) ?_
    have e : A.a * A.d - A.b * A.c = 1 := dt
    rw [e]
    refine ⟨lineN rfl, sh_ok (sh_fr (q := 1)), sh_ok (sh_fr (q := 1)), ?_⟩
    show K (!eqD (fr 1) (fr 1)) _
    rw [neD_self]
    exact hK
  refine seq_to (S (some (.d (mpD (comp A B)))) none none none none none none i2) (fun K hK => compose_ok zx zy (by decide) hK) ?_
  refine seq_to (S (some (.d (mpD (comp A B)))) (some (.d (mpD (invM A)))) none none none none none i2) (fun K hK => invert_ok zx (by decide) hK) ?_
  have zi : MZ 276 (invM A) := inv_z zx
  refine guard_st (S (some (.d (mpD (comp A B)))) (some (.d (mpD (invM A)))) none none none none none i2) (fun K hK => ?_) ?_
  · have hel : ∀ e ∈ xs ++ ys, ElIn e := fun e he => (List.mem_append.mp he).elim (hxs e) (hys e)
    refine ⟨?_, ?_⟩
    · rw [List.length_map, List.length_map]
      exact Nat.le_of_lt (small_lt (by omega))
    rw [← List.map_append]
    refine transfer_ok hel (by rw [List.length_append]; omega) ?_
    rw [hboth]
    refine ⟨sh_ok sh_mp, sh_ok sh_mp, ?_⟩
    show if (!eqD (mpD (comp A B)) (mpD (comp A B))) = true then _ else _
    rw [neD_self]
    refine compose_ok (n := 276) (zx.le (by decide)) zi (by decide) ?_
    rw [comp_inv dt]
    refine ⟨sh_ok (sh_mp (m := idM)), sh_ok (sh_mp (m := idM)), ?_⟩
    show if (!eqD (mpD idM) (mpD idM)) = true then _ else _
    rw [neD_self]
    refine compose_ok (n := 276) zi (zx.le (by decide)) (by decide) ?_
    rw [inv_comp dt]
    refine ⟨sh_ok (sh_mp (m := idM)), sh_ok (sh_mp (m := idM)), ?_⟩
    show K (!eqD (mpD idM) (mpD idM)) _
    rw [neD_self]
    exact hK
  refine seq_mid (fun m => ∃ z8 z9 z10 i, m = S (some (.d (mpD (comp A B)))) (some (.d (mpD (invM A)))) z8 z9 z10 none none i) (fun K hK => ?_) ?_
  · refine ⟨⟨by decide, by decide⟩, range_inv (fun _ _ m => ∃ z8 z9 z10 i, m = S (some (.d (mpD (comp A B)))) (some (.d (mpD (invM A)))) z8 z9 z10 none none i) ?_ ?_ 3 0 _ ⟨none, none, none, i2, rfl⟩⟩
    · rintro n lo _ K2 hK2 ⟨z8, z9, z10, i, rfl⟩
      refine ray_ok (k := 0) (i := i) (ds := ds) rfl fun r h1 h2 => ?_
      dsimp only
      have G := gr_rb hxs (by omega) (rb0 h1 h2)
      have q1 := h1.zb
      have q2 := h2.zb
      have hback : appM (invM A) (appM A r) = r := by rw [← app_comp, comp_inv dt, app_id]
      let T : Option Vl → M := fun z => S (some (.d (mpD (comp A B)))) (some (.d (mpD (invM A)))) (some (.d (.int lo))) (some (.d (rayD r))) z none none (i + 4)
      refine guard_st (T z10) (fun K hK => ?_) ?_
      · refine apply_ok zx (by omega) (by omega) (by decide) ?_
        refine lopen_ok G hxs ?_
        rw [happ]
        refine ⟨sh_ok sh_ray, sh_ok sh_ray, ?_⟩
        show if (!eqD (rayD (appM A r)) (rayD (appM A r))) = true then _ else _
        rw [neD_self]
        refine apply_ok zx (by omega) (by omega) (by decide) ?_
        have w1 : zb (appM A r).1 ≤ 345 := by
          have w := z4 (n := 69) za (show zb r.1 ≤ 69 by omega) zb' (show zb r.2 ≤ 69 by omega)
          have w2 := zb_add (A.a * r.1 + A.b * r.2) A.e
          show zb (A.a * r.1 + A.b * r.2 + A.e) ≤ 345
          omega
        have w2 : zb (appM A r).2 ≤ 345 := by
          have w := z4 (n := 69) zc (show zb r.1 ≤ 69 by omega) zd (show zb r.2 ≤ 69 by omega)
          have w2 := zb_add (A.c * r.1 + A.d * r.2) A.f
          show zb (A.c * r.1 + A.d * r.2 + A.f) ≤ 345
          omega
        refine apply_ok (n := 345) (zi.le (by decide)) w1 w2 (by decide) ?_
        rw [hback]
        refine ⟨sh_ok sh_ray, sh_ok sh_ray, ?_⟩
        show K (!eqD (rayD r) (rayD r)) _
        rw [neD_self]
        exact hK
      refine seq_to (T (some (.d (oray (leaves xs r))))) (fun K hK => exit_ok G (by decide) (fun e he => el_z (hxs e he) (by decide)) (by omega) hK) ?_
      refine guard_st (T (some (.d (oray (leaves xs r))))) (fun K hK => ?_) ?_
      · cases c : leaves xs r with
        | none =>
          rw [c] at hK
          exact hK
        | some w =>
          rw [c] at hK
          refine apply_ok zx (by omega) (by omega) (by decide) ?_
          have e := leaves_open c
          rw [happ] at e
          rw [← e]
          refine ⟨sh_ok sh_ray, sh_ok sh_ray, ?_⟩
          show K (!eqD (rayD w) (rayD w)) _
          rw [neD_self]
          exact hK
      refine guard_end (fun m => m = T (some (.d (oray (leaves xs r))))) (fun K hK => ?_) ?_
      · refine apply_ok (m := idM) (n := 69) (mrb_id.z.le (by decide)) (by omega) (by omega) (by decide) ?_
        rw [app_id]
        refine ⟨sh_ok sh_ray, sh_ok sh_ray, ?_⟩
        show K (!eqD (rayD r) (rayD r)) _
        rw [neD_self]
        exact hK _ rfl
      · rintro _ rfl
        exact hK2 _ ⟨_, _, _, _, rfl⟩
    · rintro lo _ ⟨z8, z9, z10, i, rfl⟩
      exact hK _ ⟨z8, z9, z10, i, rfl⟩
  rintro _ ⟨z8, z9, z10, i, rfl⟩
  refine each_inv (lk := none) elD (fun rest m => (∀ e ∈ rest, ElIn e) ∧ ∃ z11, m = S (some (.d (mpD (comp A B)))) (some (.d (mpD (invM A)))) z8 z9 z10 z11 none i) (fun _ _ _ => trivial) ?_ ?_ xs _ ⟨hxs, none, rfl⟩
  · rintro e rest _ K hK ⟨he, z11, rfl⟩
    have h0 := he e List.mem_cons_self
    refine guard_end (fun m => m = S (some (.d (mpD (comp A B)))) (some (.d (mpD (invM A)))) z8 z9 z10 (some (.d (elD e))) none i) (fun K' hK' => ?_) ?_
    · refine elmap_ok (el_z h0 (n := 10) (by decide)) (by decide) ?_
      refine ⟨lineN rfl, ?_⟩
      refine transfer_ok (es := [e]) (fun e' h' => by rw [List.mem_singleton] at h'; rw [h']; exact h0) (by show 1 ≤ 10000; decide) ?_
      rw [transfer_one]
      refine ⟨sh_ok sh_mp, sh_ok sh_mp, ?_⟩
      show K' (!eqD (mpD (elM e)) (mpD (elM e))) _
      rw [neD_self]
      exact hK' _ rfl
    · rintro _ rfl
      exact hK _ ⟨fun e' h' => he e' (List.mem_cons_of_mem _ h'), _, rfl⟩
  · rintro _ ⟨_, z11, rfl⟩
    exact rfl
end PG

set_option maxRecDepth 100000
set_option maxHeartbeats 4000000
namespace PG
open PySem PySem.Spec PyProof.Rows L2 RT
/-- a denominator -/
def Dn (D : Nat) (q : Rat) : Prop := ∃ n : Int, q * (D : Rat) = (n : Rat)
theorem In.dn {D B : Nat} {q : Rat} : In D B q → Dn D q := fun ⟨n, h, _⟩ => ⟨n, h⟩
theorem dn_add {D : Nat} {x y : Rat} : Dn D x → Dn D y → Dn D (x + y) := fun ⟨n, h1⟩ ⟨m, h3⟩ => ⟨n + m, by rw [Rat.add_mul, h1, h3, ← Rat.intCast_add]⟩
theorem dn_neg {D : Nat} {x : Rat} : Dn D x → Dn D (-x) := fun ⟨n, h1⟩ => ⟨-n, by rw [Rat.neg_mul, h1, Rat.intCast_neg]⟩
theorem dn_sub {D : Nat} {x y : Rat} (h1 : Dn D x) (h2 : Dn D y) : Dn D (x - y) := by
  rw [Rat.sub_eq_add_neg]
  exact dn_add h1 (dn_neg h2)
theorem dn_mul {D E : Nat} {x y : Rat} : Dn D x → Dn E y → Dn (D * E) (x * y) := fun ⟨n, h1⟩ ⟨m, h3⟩ => ⟨n * m, by
  rw [Rat.intCast_mul, ← h1, ← h3, Rat.natCast_mul]
  grind⟩
theorem dn_up {D : Nat} (k : Nat) {x : Rat} : Dn D x → Dn (D * k) x := fun ⟨n, h1⟩ => ⟨n * k, by
  rw [Rat.intCast_mul, ← h1, Rat.natCast_mul]
  simp only [Rat.intCast_natCast]
  grind⟩
theorem dn_upl {D : Nat} (k : Nat) {x : Rat} (h : Dn D x) : Dn (k * D) x := by
  rw [Nat.mul_comm]
  exact dn_up k h
theorem dn_den {D : Nat} {x : Rat} (hD : 0 < D) : Dn D x → x.den ≤ D := fun ⟨n, h1⟩ => by
  have e : x = Rat.divInt n D := by
    rw [Rat.divInt_eq_div]
    have : (D : Rat) ≠ 0 := by
      have : D ≠ 0 := by omega
      simpa using this
    simp only [Rat.intCast_natCast]
    rw [← h1]
    grind
  rw [e, Rat.den_divInt, if_neg (by omega), Int.natAbs_natCast]
  exact Nat.div_le_self ..
theorem dn_one {n : Int} : Dn 1 (n : Rat) := ⟨n, by simp⟩
/-- an own list of elements that pass a test -/
theorem filt_go {α : Type} {f : α → Dt} {p : α → Bool} {sl slw : List (Option Vl)} {i : Nat} {tt : DT} {all : List Dt} {st : List Cell} {K : List Dt → M → Prop} (hi : i < slw.length)
    (ht : ∀ (a : α) (P : Bool → M → Prop), P (p a) ⟨slw.set i (some (.d (f a))), st⟩ → tt ⟨slw.set i (some (.d (f a))), st⟩ P) :
    ∀ (xs acc : List α), acc.length + xs.length ≤ 100000 → K ((acc ++ xs.filter p).map f) ⟨sl, st⟩ → dLcGo sl slw (.nm i) tt (dVar i) all none K (xs.map f) (acc.map f) st
  | [], acc, _, h => ⟨trivial, by rw [List.filter_nil, List.append_nil] at h; exact h⟩
  | x :: xs, acc, hl, h => by
    rw [List.length_cons] at hl
    refine ⟨trivial, ht x _ ?_⟩
    have hv : (slw.set i (some (.d (f x))))[i]? = some (some (.d (f x))) := by simp [hi]
    cases hp : p x with
    | true =>
      rw [if_pos rfl]
      unfold dVar
      simp only [hv]
      refine ⟨by rw [List.length_map]; exact small_lt (by omega), ?_⟩
      have := filt_go (all := all) (K := K) hi ht xs (acc ++ [x]) (by rw [List.length_append, List.length_singleton]; omega) (by rw [List.append_assoc]; rw [List.filter_cons, if_pos hp] at h; exact h)
      rw [List.map_append] at this
      exact this
    | false =>
      exact filt_go (K := K) hi ht xs acc (by omega) (by rw [List.filter_cons, if_neg (by rw [hp]; decide)] at h; exact h)
section
variable {st : List Cell} {Q : Vl → List Cell → Prop}
theorem lat_ok {r : Ray} {q : Rat} (h1 : zb r.1 ≤ 1000000) (h2 : zb r.2 ≤ 1000000) (h3 : zb q ≤ 1000000) (d1 : q.den * r.2.den < 2 ^ 200) (d2 : r.1.den * (q * r.2).den < 2 ^ 200) (h : Q (.d (fr (r.1 + q * r.2))) st) : sp__law_at [.d (rayD r), .d (fr q)] st Q := by
  unfold sp__law_at
  have := zb_mul q r.2
  exact ⟨rfl, lmul_ok2 (zm (by omega)) d1 (ladd_ok2 (zm (by omega)) d2 (tk h))⟩
theorem eqD_fr {x y : Rat} : eqD (fr x) (fr y) = decide (x = y) := by
  rw [Bool.eq_iff_iff, eqD_iff (nb_fr x) (nb_fr y), fr_inj, decide_eq_true_iff]
theorem image_ok {m : Mp} {q : Rat} {n : Nat} (hm : MZ n m) (hq : zb q ≤ n) (hn : n ≤ 100000)
    (h : Q (.d (ofr (if m.c * q + m.d = 0 then none else some (-((m.a * q + m.b) / (m.c * q + m.d)))))) st) : sp_image_distance [.d (mpD m), .d (fr q)] st Q := by
  obtain ⟨⟨ha, hb, hc⟩, hd, he, hf⟩ := hm
  unfold sp_image_distance
  refine ⟨rfl, rfl, ?_⟩
  have m1 := zb_mul m.c q
  have m2 := zb_mul m.a q
  have m3 := zb_add (m.c * q) m.d
  have m4 := zb_add (m.a * q) m.b
  refine multiply_ok (zm (by omega)) (add_ok (zm (by omega)) ?_)
  refine ⟨sh_ok sh_fr, sh_ok (sh_fr (q := 0)), ?_⟩
  show if eqD (fr (m.c * q + m.d)) (fr 0) = true then _ else _
  rw [eqD_fr]
  by_cases c : m.c * q + m.d = 0
  · rw [if_pos (decide_eq_true c)]
    rw [if_pos c] at h
    exact tk h
  · rw [if_neg (by simpa using c)]
    rw [if_neg c] at h
    refine multiply_ok (zm (by omega)) (add_ok (zm (by omega)) ?_)
    refine divide_ok c (zm (by omega)) ?_
    exact negative_ok (tk h)
theorem magn_ok {m : Mp} {q : Rat} {n : Nat} (hm : MZ n m) (hq : zb q ≤ n) (hn : n ≤ 100000)
    (h : Q (.d (ofr (if m.c * q + m.d = 0 then none else some (1 / (m.c * q + m.d))))) st) : sp_magnification [.d (mpD m), .d (fr q)] st Q := by
  obtain ⟨⟨ha, hb, hc⟩, hd, he, hf⟩ := hm
  unfold sp_magnification
  refine ⟨rfl, rfl, ?_⟩
  have m1 := zb_mul m.c q
  have m3 := zb_add (m.c * q) m.d
  refine multiply_ok (zm (by omega)) (add_ok (zm (by omega)) ?_)
  refine ⟨sh_ok sh_fr, sh_ok (sh_fr (q := 0)), ?_⟩
  show if eqD (fr (m.c * q + m.d)) (fr 0) = true then _ else _
  rw [eqD_fr]
  by_cases c : m.c * q + m.d = 0
  · rw [if_pos (decide_eq_true c)]
    rw [if_pos c] at h
    exact tk h
  · rw [if_neg (by simpa using c)]
    rw [if_neg c] at h
    have o1 : zb 1 ≤ 2 := by decide
    refine divide_ok (x := 1) c (zm (by omega)) ?_
    exact tk h
end
end PG

set_option maxRecDepth 100000
set_option maxHeartbeats 4000000
namespace PG
open PySem PySem.Spec PyProof.Rows L2 RT
def D5 : Nat := 12 * 60 ^ 5
def B5 : Nat := 6 * 13 ^ 5
theorem rb_up {j : Nat} {r : Ray} (hj : j ≤ 5) (h : Rb j r) : In D5 B5 r.1 ∧ In D5 B5 r.2 := by
  have e : D5 = (12 * 60 ^ j) * 60 ^ (5 - j) := by
    unfold D5
    rw [Nat.mul_assoc, ← Nat.pow_add, show j + (5 - j) = 5 by omega]
  have hB : 6 * 13 ^ j ≤ B5 := Nat.mul_le_mul_left _ (Nat.pow_le_pow_right (by decide) hj)
  rw [e]
  exact ⟨in_le hB (in_up (Nat.pow_pos (by decide)) h.1), in_le hB (in_up (Nat.pow_pos (by decide)) h.2)⟩
/-- the law's three slopes -/
def s3 : Rat := Rat.divInt (-2) 3
theorem fr_s3 : Dt.tup [.int (-2), .int 3] = fr s3 := by
  unfold fr
  rw [show s3.num = -2 by decide +kernel, show ((s3.den : Nat) : Int) = 3 by decide +kernel]
def slopes : List Rat := [0, 1, s3]
theorem slope_dn {s : Rat} (h : s ∈ slopes) : Dn 3 s ∧ zb s ≤ 5 ∧ s.den ≤ 3 := by
  unfold slopes at h
  simp only [List.mem_cons, List.not_mem_nil, or_false] at h
  have d0 : Dn 3 0 := ⟨0, by simp⟩
  rcases h with rfl | rfl | rfl
  · exact ⟨⟨0, by simp⟩, by decide, by decide⟩
  · exact ⟨⟨3, by simp⟩, by decide, by decide⟩
  · exact ⟨⟨-2, by rw [s3, Rat.divInt_eq_div]; grind⟩, by decide, by decide⟩
theorem dn_inv_mul {n D : Nat} {x : Rat} {k : Int} (h : x * (D : Rat) = (k : Rat)) (hx : x ≠ 0) (hD : 0 < D) : Dn k.natAbs x⁻¹ := by
  have hk : k ≠ 0 := fun e => by
    rw [e] at h
    have : (D : Rat) ≠ 0 := by
      have : D ≠ 0 := by omega
      simpa using this
    grind
  refine ⟨k.sign * D, ?_⟩
  have e : ((k.natAbs : Nat) : Rat) = ((k.sign * k : Int) : Rat) := by
    rw [sign_self]
    exact (Rat.intCast_natCast _).symm
  rw [e, Rat.intCast_mul, Rat.intCast_mul, ← h]
  simp only [Rat.intCast_natCast]
  grind
/-- what is known of the distance -/
structure Dist (A : Mp) (q : Rat) : Prop where
  z : zb q ≤ 300
  den : q.den ≤ 2 ^ 90
  good : A.c * q + A.d = 0 ∨ Pn q
section
variable {A : Mp} {q h0 s : Rat}
theorem pn_dn {q : Rat} (h : Pn q) : Dn 12 q := h.in_.dn
/-- heights of the law's own rays -/
theorem exit_dn (hA : Dn D5 A.a ∧ Dn D5 A.b ∧ Dn D5 A.c ∧ Dn D5 A.d ∧ Dn D5 A.e ∧ Dn D5 A.f) {k : Nat} (hh : Dn (12 * k) h0) (hs : Dn k s) : Dn (D5 * (12 * k)) (appM A (h0, s)).1 ∧ Dn (D5 * (12 * k)) (appM A (h0, s)).2 := by
  obtain ⟨a, b, c, d, e, f⟩ := hA
  exact ⟨dn_add (dn_add (dn_mul a hh) (dn_mul b (dn_upl 12 hs))) (dn_up _ e), dn_add (dn_add (dn_mul c hh) (dn_mul d (dn_upl 12 hs))) (dn_up _ f)⟩
theorem at_dn {E N : Nat} {r : Ray} (h1 : Dn E r.1) (h2 : Dn E r.2) (hq : Dn N q) : Dn (N * E) (r.1 + q * r.2) := dn_add (dn_upl N h1) (dn_mul hq h2)
theorem mul_lt {a b c d n : Nat} (h1 : a ≤ c) (h2 : b ≤ d) (h : c * d < n) : a * b < n := Nat.lt_of_le_of_lt (Nat.mul_le_mul h1 h2) h
end
end PG

set_option maxRecDepth 100000
set_option maxHeartbeats 4000000
namespace PG
open PySem PySem.Spec PyProof.Rows L2 RT
def notStop : El → Bool
  | .stop _ _ => false
  | _ => true
theorem stop_test (a : El) (sl : List (Option Vl)) (st : List Cell) (i : Nat) (P : Bool → M → Prop) (hi : sl[i]? = some (some (.d (elD a)))) (h : P (notStop a) ⟨sl, st⟩) : dTest (dOp RT.rNe (dOp RT.rIx (dVar i) (dC (.int 0))) (dC (.str ("stop" : Str)))) ⟨sl, st⟩ P := by
  unfold dTest dOp dVar
  simp only [hi]
  cases a with
  | gap g => exact ⟨s_gap, s_stop, by show P (!eqD (.str _) (.str _)) _; rw [eqS, ne_gs]; exact h⟩
  | lens p c => exact ⟨s_lens, s_stop, by show P (!eqD (.str _) (.str _)) _; rw [eqS, ne_ls]; exact h⟩
  | prism d => exact ⟨s_prism, s_stop, by show P (!eqD (.str _) (.str _)) _; rw [eqS, ne_ps]; exact h⟩
  | afocal m => exact ⟨s_afocal, s_stop, by show P (!eqD (.str _) (.str _)) _; rw [eqS, ne_as]; exact h⟩
  | stop lo hi => exact ⟨s_stop, s_stop, by show P (!eqD (.str _) (.str _)) _; rw [eqD_self]; exact h⟩
theorem onDs2 {a b : Dt} {P : List Dt → Prop} (h : P [a, b]) : onDs [.d a, .d b] P := h
theorem onDs1 {a : Dt} {P : List Dt → Prop} (h : P [a]) : onDs [.d a] P := h
theorem dn_7 : Dn 7 (Rat.divInt 1 7) := ⟨1, by rw [Rat.divInt_eq_div]; grind⟩
theorem next_st {E : DEnds} {m : M} (h : E.nx m) : dNext E m := h
theorem fr_7 : Dt.tup [.int 1, .int 7] = fr (Rat.divInt 1 7) := by
  unfold fr
  rw [show (Rat.divInt 1 7).num = 1 by decide +kernel, show (((Rat.divInt 1 7).den : Nat) : Int) = 7 by decide +kernel]
theorem ladd17 {x : Rat} {st : List Cell} {Q : Vl → List Cell → Prop} (hz : zb x + zb (Rat.divInt 1 7) < ZM) (hd : x.den * (Rat.divInt 1 7).den < 2 ^ 200) (h : Q (.d (fr (x + Rat.divInt 1 7))) st) : sp__law_add [.d (fr x), .d (.tup [.int 1, .int 7])] st Q := by
  rw [fr_7]
  exact ladd_ok2 hz hd h
theorem law_k04 : LawD 63 sp_law_5 := fun ns hl hb => by
  unfold sp_law_5
  refine ⟨rfl, ?_⟩
  refine digits_ok hb (by decide) (by decide) (by decide) fun ds hd hdl => ?_
  refine ⟨lineN rfl, ?_⟩
  refine onDs2 ?_
  dsimp only
  let sc : Dt := .lst (ns.map .int)
  refine seq_mid (fun m => ∃ (es : List El) (i : Nat), es.length ≤ 5 ∧ (∀ e ∈ es, ElIn e) ∧ m = ⟨[some (.d sc), some (.c 0), some (.d (.lst (es.map elD))), none, none, none, none, none, none, none, none, none, none, none], [Bx ds i]⟩) (fun K hK => ?_) ?_
  · refine train_ok (n := 5) (by decide) (k := 0) (i := 0) (ds := ds) rfl fun xs i1 hx5 hxs => ?_
    refine filt_go (p := notStop) (by show 13 < 14; decide) (fun a P hP => stop_test a _ _ 13 P (by rfl) hP) xs [] (by rw [List.length_nil]; omega) ?_
    exact hK _ ⟨xs.filter notStop, i1, Nat.le_trans (List.length_filter_le _ _) hx5, fun e he => hxs e ((List.mem_filter.mp he).1), rfl⟩
  rintro _ ⟨es, i, he5, hes, rfl⟩
  refine transfer_ok hes (by omega) ?_
  dsimp only
  have rA := mrb_transfer hes
  have zA : MZ 140 (transfer es) := rA.z.le (by omega)
  have dt : det (transfer es) = 1 := det_transfer fun e he => (hes e he).ok
  have ia := rb_up he5 rA.1
  have ib := rb_up he5 rA.2.1
  have ie := rb_up he5 rA.2.2
  generalize transfer es = A at *
  obtain ⟨ina, inc⟩ : In D5 B5 A.a ∧ In D5 B5 A.c := ia
  obtain ⟨inb, ind⟩ : In D5 B5 A.b ∧ In D5 B5 A.d := ib
  obtain ⟨ine, inf⟩ : In D5 B5 A.e ∧ In D5 B5 A.f := ie
  have pD : 0 < D5 := by decide
  have hA : Dn D5 A.a ∧ Dn D5 A.b ∧ Dn D5 A.c ∧ Dn D5 A.d ∧ Dn D5 A.e ∧ Dn D5 A.f := ⟨ina.dn, inb.dn, inc.dn, ind.dn, ine.dn, inf.dn⟩
  obtain ⟨⟨za, zb', zc⟩, zd, ze, zf⟩ := id zA
  have denc := dn_den pD inc.dn
  have dend := dn_den pD ind.dn
  let S : Option Vl → Option Vl → Option Vl → Option Vl → Option Vl → Option Vl → Option Vl → Option Vl → Option Vl → List Cell → M := fun z4 z5 z6 z7 z8 z9 z10 z11 z12 st => ⟨[some (.d sc), some (.c 0), some (.d (.lst (es.map elD))), some (.d (mpD A)), z4, z5, z6, z7, z8, z9, z10, z11, z12, none], st⟩
  refine sm_ok (k := 0) (i := i) (ds := ds) rfl fun q0 hq0 => ?_
  dsimp only
  refine seq_mid (fun m => ∃ q i, Dist A q ∧ m = S (some (.d (fr q))) none none none none none none none none [Bx ds i]) (fun K hK => ?_) ?_
  · have dist0 : Dist A q0 := ⟨by have := hq0.zb; omega, by
      have := dn_den (by decide) (pn_dn hq0)
      omega, .inr hq0⟩
    refine draw_ok (k := 0) (i := i + 2) (ds := ds) rfl (by decide) fun w w0 w1 => ?_
    refine ⟨rfl, rfl, ?_⟩
    show if eqD (.int w) (.int 0) = true then _ else _
    rw [eqD_int]
    by_cases c : w = 0
    · rw [if_pos (decide_eq_true c)]
      refine ⟨rfl, rfl, ?_⟩
      show if (!eqD (.int A.c.num) (.int 0)) = true then _ else _
      rw [eqD_int]
      by_cases c2 : A.c.num = 0
      · rw [decide_eq_true c2]
        exact hK _ ⟨q0, i + 3, dist0, rfl⟩
      · rw [decide_eq_false c2]
        have hc0 : A.c ≠ 0 := fun e => c2 (fr_num_zero.mpr e)
        have z0 : zb 0 ≤ 2 := by decide
        refine ⟨lineN rfl, ?_⟩
        refine lsub_ok2 (x := 0) (zm (by omega)) (mul_lt (Nat.le_refl _) dend (by decide)) ?_
        refine lfr_ok c2 (pow_le (a := 140) (by decide) (sz_num zc)) ?_
        rw [inv_fr hc0]
        have zi := @zb_inv A.c
        have zs := zb_sub 0 A.d
        obtain ⟨n, hn, hnb⟩ := id inc
        have dni := dn_inv_mul (n := 0) hn hc0 pD
        have np : 0 < n.natAbs := by
          have : n ≠ 0 := fun e => hc0 (by
            rw [e] at hn
            have : (D5 : Rat) ≠ 0 := by decide
            grind)
          omega
        have deni := dn_den np dni
        have hnB : n.natAbs ≤ 2 ^ 55 := Nat.le_trans hnb (by decide)
        have den0 : (0 - A.d).den ≤ D5 := dn_den pD (dn_sub ⟨0, by simp⟩ ind.dn)
        refine lmul_ok2 (zm (by omega)) (mul_lt den0 (Nat.le_trans deni hnB) (by decide)) ?_
        refine hK _ ⟨(0 - A.d) * A.c⁻¹, i + 3, ⟨?_, ?_, .inl ?_⟩, rfl⟩
        · have := zb_mul (0 - A.d) A.c⁻¹
          omega
        · exact Nat.le_trans (den_mul_le _ _) (Nat.le_trans (Nat.mul_le_mul den0 (Nat.le_trans deni hnB)) (by decide))
        · grind
    · rw [if_neg (by simpa using c)]
      exact hK _ ⟨q0, i + 3, dist0, rfl⟩
  rintro _ ⟨q, i, hq, rfl⟩
  refine sm_ok (k := 0) (i := i) (ds := ds) rfl fun hgt hh => ?_
  refine sm_ok (k := 0) (i := i + 2) (ds := ds) rfl fun oth ho => ?_
  refine ⟨lineN rfl, ?_⟩
  have zq := hq.z
  have dq := hq.den
  have zh := hh.zb
  have zo := ho.zb
  have dh := dn_den (by decide) (pn_dn hh)
  have do' := dn_den (by decide) (pn_dn ho)
  let ex : Rat → Dt := fun s => rayD (appM A (hgt + q * s, s))
  let F : Option Vl → Option Vl := fun z => z
  dsimp only
  let T : Option Vl → Option Vl → Option Vl → Option Vl → Option Vl → List Rat → M := fun z8 z9 z10 z11 z12 l => S (some (.d (fr q))) (some (.d (fr hgt))) (some (.d (fr oth))) (some (.c 1)) z8 z9 z10 z11 z12 [Bx ds (i + 4), .lst (l.map ex)]
  refine seq_mid (fun m => ∃ z8, m = T z8 none none none none slopes) (fun K hK => ?_) ?_
  · refine ⟨lineN rfl, lineN rfl, lineN rfl, lineN rfl, ?_⟩
    refine each_inv (lk := none) (fun p : Int × Int => Dt.tup [.int p.1, .int p.2]) (fun r m => ∃ (l : List Rat) (rest : List Rat) (z8 : Option Vl), l ++ rest = slopes ∧ r.map (fun p : Int × Int => Dt.tup [.int p.1, .int p.2]) = rest.map fr ∧ m = T z8 none none none none l) (fun _ _ _ => trivial) ?_ ?_ [(0, 1), (1, 1), (-2, 3)] _ ⟨[], slopes, none, rfl, by simp only [slopes, List.map_cons, List.map_nil, ← fr_s3]; rfl, rfl⟩
    · rintro p r _ K2 hK2 ⟨l, rest, z8, e1, e2, rfl⟩
      cases rest with
      | nil => cases e2
      | cons s rest =>
        simp only [List.map_cons, List.cons.injEq] at e2
        obtain ⟨e3, e4⟩ := e2
        have hs : s ∈ slopes := by
          rw [← e1]
          exact List.mem_append_right _ List.mem_cons_self
        obtain ⟨s1, s2, s3'⟩ := slope_dn hs
        have hlen : l.length ≤ 3 := by
          have := congrArg List.length e1
          rw [List.length_append] at this
          have h3 : slopes.length = 3 := rfl
          omega
        rw [e3]
        have m1 := zb_mul q s
        have m2 := zb_add hgt (q * s)
        refine ⟨⟨l.map ex, rfl⟩, ?_⟩
        refine lmul_ok2 (zm (by omega)) (mul_lt dq s3' (by decide)) ?_
        refine ladd_ok2 (zm (by omega)) (mul_lt dh (Nat.le_trans (den_mul_le q s) (Nat.mul_le_mul dq s3')) (by decide)) ?_
        refine ⟨lineN rfl, ?_⟩
        refine apply_ok (r := (hgt + q * s, s)) (n := 1000) (zA.le (by decide)) (show zb (hgt + q * s) ≤ 1000 by omega) (show zb s ≤ 1000 by omega) (by decide) ?_
        refine onDs1 (a := rayD (appM A (hgt + q * s, s))) ?_
        dsimp only
        refine onC_mk (st := [Bx ds (i + 4), .lst (l.map ex)]) (k := 1) (xs := l.map ex) rfl ⟨small_lt (by rw [List.length_map]; omega), ?_⟩
        refine hK2 _ ⟨l ++ [s], rest, some (.d (fr s)), by rw [List.append_assoc]; exact e1, e4, ?_⟩
        show (⟨_, [Bx ds (i + 4), .lst (l.map ex ++ [ex s])]⟩ : M) = ⟨_, [Bx ds (i + 4), .lst ((l ++ [s]).map ex)]⟩
        rw [List.map_append]
        rfl
    · rintro _ ⟨l, rest, z8, e1, e2, rfl⟩
      have : rest = [] := by
        cases rest with
        | nil => rfl
        | cons a b => cases e2
      subst this
      rw [List.append_nil] at e1
      rw [e1]
      exact hK _ ⟨z8, rfl⟩
  rintro _ ⟨z8, rfl⟩
  have zoq := zb_add oth q
  have zcq := zb_mul A.c q
  have zbel := zb_add (A.c * q) A.d
  refine seq_to (T z8 (some (.d (rayD (appM A (oth + q, 1))))) none none none slopes) (fun K hK => ladd_ok2 (zm (by omega)) (mul_lt do' dq (by decide)) ⟨lineN rfl, lineN rfl, apply_ok (r := (oth + q, 1)) (n := 1000) (zA.le (by decide)) (show zb (oth + q) ≤ 1000 by omega) (show zb 1 ≤ 1000 by decide) (by decide) hK⟩) ?_
  refine seq_to (T z8 (some (.d (rayD (appM A (oth + q, 1))))) (some (.d (ofr (if A.c * q + A.d = 0 then none else some (-((A.a * q + A.b) / (A.c * q + A.d))))))) none none slopes) (fun K hK => image_ok (n := 300) (zA.le (by decide)) zq (by decide) hK) ?_
  refine seq_to (T z8 (some (.d (rayD (appM A (oth + q, 1))))) (some (.d (ofr (if A.c * q + A.d = 0 then none else some (-((A.a * q + A.b) / (A.c * q + A.d))))))) (some (.d (ofr (if A.c * q + A.d = 0 then none else some (1 / (A.c * q + A.d)))))) none slopes) (fun K hK => magn_ok (n := 300) (zA.le (by decide)) zq (by decide) hK) ?_
  have dcq := Nat.le_trans (den_mul_le A.c q) (Nat.mul_le_mul denc dq)
  refine seq_to (T z8 (some (.d (rayD (appM A (oth + q, 1))))) (some (.d (ofr (if A.c * q + A.d = 0 then none else some (-((A.a * q + A.b) / (A.c * q + A.d))))))) (some (.d (ofr (if A.c * q + A.d = 0 then none else some (1 / (A.c * q + A.d)))))) (some (.d (fr (A.c * q + A.d)))) slopes)
    (fun K hK => lmul_ok2 (zm (by omega)) (mul_lt denc dq (by decide)) (ladd_ok2 (zm (by omega)) (mul_lt dcq dend (by decide)) hK)) ?_
  refine ⟨rfl, rfl, ?_⟩
  show if eqD (.int (A.c * q + A.d).num) (.int 0) = true then _ else _
  rw [eqD_int]
  by_cases hbel : A.c * q + A.d = 0
  · rw [if_pos (decide_eq_true (fr_num_zero.mpr hbel)), if_pos hbel, if_pos hbel]
    refine guard_st ⟨_, _⟩ (fun K hK => hK) ?_
    have e2 : ∀ s : Rat, (appM A (hgt + q * s, s)).2 = A.c * hgt + A.f := fun s => by
      show A.c * (hgt + q * s) + A.d * s + A.f = A.c * hgt + A.f
      have : A.c * (hgt + q * s) + A.d * s + A.f = A.c * hgt + A.f + s * (A.c * q + A.d) := by grind
      rw [this, hbel]
      grind
    refine ⟨sh_ok sh_fr, sh_ok sh_fr, ?_⟩
    show if eqD (fr (appM A (hgt + q * 0, 0)).2) (fr (appM A (hgt + q * 1, 1)).2) = true then _ else _
    rw [e2, e2, eqD_self]
    refine ⟨sh_ok sh_fr, sh_ok sh_fr, ?_⟩
    show Vl.d (.bl (eqD (fr (appM A (hgt + q * 1, 1)).2) (fr (appM A (hgt + q * s3, s3)).2))) = _
    rw [e2, e2, eqD_self]
  rw [if_neg (by simp only [decide_eq_true_eq]; exact fun z => hbel (fr_num_zero.mp z)), if_neg hbel, if_neg hbel]
  have hq' : Pn q := hq.good.resolve_left hbel
  have zq9 := hq'.zb
  have inq := hq'.in_
  obtain ⟨n2, h2, h2b⟩ := in_add (in_mul inc inq) (in_up (k := 12) (by decide) ind)
  obtain ⟨n1, h1, _⟩ := in_add (in_mul ina inq) (in_up (k := 12) (by decide) inb)
  have hN2 : n2.natAbs ≤ 2 ^ 61 := Nat.le_trans h2b (by decide)
  have hD12 : ((D5 * 12 : Nat) : Rat) ≠ 0 := by decide
  have pN2 : 0 < n2.natAbs := by
    have : n2 ≠ 0 := fun e => by
      rw [e] at h2
      grind
    omega
  have eN : ((n2.natAbs : Nat) : Rat) = ((n2.sign : Int) : Rat) * (n2 : Rat) := by
    rw [← Rat.intCast_mul, sign_self]
    exact (Rat.intCast_natCast _).symm
  have dscale : Dn n2.natAbs (1 / (A.c * q + A.d)) := ⟨n2.sign * (D5 * 12 : Nat), by
    rw [eN, ← h2, Rat.intCast_mul]
    simp only [Rat.intCast_natCast]
    grind⟩
  have dimage : Dn n2.natAbs (-((A.a * q + A.b) / (A.c * q + A.d))) := ⟨-(n2.sign * n1), by
    rw [eN, ← h2, Rat.intCast_neg, Rat.intCast_mul, ← h1]
    grind⟩
  have zimage : zb (-((A.a * q + A.b) / (A.c * q + A.d))) ≤ 1000 := by
    rw [zb_neg, Rat.div_def]
    have w1 := zb_mul (A.a * q + A.b) (A.c * q + A.d)⁻¹
    have w2 := @zb_inv (A.c * q + A.d)
    have w3 := zb_mul A.a q
    have w4 := zb_add (A.a * q) A.b
    omega
  have zscale : zb (1 / (A.c * q + A.d)) ≤ 1000 := by
    rw [Rat.div_def]
    have w1 := zb_mul 1 (A.c * q + A.d)⁻¹
    have w2 := @zb_inv (A.c * q + A.d)
    have w3 : zb 1 ≤ 2 := by decide
    omega
  have hval : ∀ s : Rat, (appM A (hgt + q * s, s)).1 + -((A.a * q + A.b) / (A.c * q + A.d)) * (appM A (hgt + q * s, s)).2 = A.a * hgt + A.e + -((A.a * q + A.b) / (A.c * q + A.d)) * (A.c * hgt + A.f) := fun s => by
    show A.a * (hgt + q * s) + A.b * s + A.e + -((A.a * q + A.b) / (A.c * q + A.d)) * (A.c * (hgt + q * s) + A.d * s + A.f) = _
    have : (A.a * q + A.b) / (A.c * q + A.d) * (A.c * q + A.d) = A.a * q + A.b := by grind
    grind
  have hval7 : ∀ s : Rat, (appM A (hgt + q * s, s)).1 + (-((A.a * q + A.b) / (A.c * q + A.d)) + Rat.divInt 1 7) * (appM A (hgt + q * s, s)).2 = A.a * hgt + A.e + (-((A.a * q + A.b) / (A.c * q + A.d)) + Rat.divInt 1 7) * (A.c * hgt + A.f) + s * (Rat.divInt 1 7 * (A.c * q + A.d)) := fun s => by
    show A.a * (hgt + q * s) + A.b * s + A.e + (-((A.a * q + A.b) / (A.c * q + A.d)) + Rat.divInt 1 7) * (A.c * (hgt + q * s) + A.d * s + A.f) = _
    have : (A.a * q + A.b) / (A.c * q + A.d) * (A.c * q + A.d) = A.a * q + A.b := by grind
    grind
  have hlast : ((appM A (oth + q, 1)).1 + -((A.a * q + A.b) / (A.c * q + A.d)) * (appM A (oth + q, 1)).2) - ((appM A (hgt + q * 1, 1)).1 + -((A.a * q + A.b) / (A.c * q + A.d)) * (appM A (hgt + q * 1, 1)).2) = 1 / (A.c * q + A.d) * (oth - hgt) := by
    show (A.a * (oth + q) + A.b * 1 + A.e + -((A.a * q + A.b) / (A.c * q + A.d)) * (A.c * (oth + q) + A.d * 1 + A.f)) - (A.a * (hgt + q * 1) + A.b * 1 + A.e + -((A.a * q + A.b) / (A.c * q + A.d)) * (A.c * (hgt + q * 1) + A.d * 1 + A.f)) = _
    have dt' : A.a * A.d - A.b * A.c = 1 := dt
    have w1 : (A.a * q + A.b) / (A.c * q + A.d) * (A.c * q + A.d) = A.a * q + A.b := by grind
    have w2 : 1 / (A.c * q + A.d) = A.a - (A.a * q + A.b) / (A.c * q + A.d) * A.c := by grind
    rw [w2]
    grind
  generalize hIm : -((A.a * q + A.b) / (A.c * q + A.d)) = im at *
  generalize hSc : 1 / (A.c * q + A.d) = sca at *
  have dim := dn_den pN2 dimage
  have dsc := dn_den pN2 dscale
  have zr : ∀ (h0 s : Rat), zb h0 ≤ 1000 → zb s ≤ 1000 → zb (appM A (h0, s)).1 ≤ 10000 ∧ zb (appM A (h0, s)).2 ≤ 10000 := fun h0 s a1 a2 => by
    have w1 := z4 (n := 1000) (show zb A.a ≤ 1000 by omega) a1 (show zb A.b ≤ 1000 by omega) a2
    have w2 := z4 (n := 1000) (show zb A.c ≤ 1000 by omega) a1 (show zb A.d ≤ 1000 by omega) a2
    have w3 := zb_add (A.a * h0 + A.b * s) A.e
    have w4 := zb_add (A.c * h0 + A.d * s) A.f
    constructor
    · show zb (A.a * h0 + A.b * s + A.e) ≤ _
      omega
    · show zb (A.c * h0 + A.d * s + A.f) ≤ _
      omega
  have LAT : ∀ {r : Ray} {x : Rat} {st : List Cell} {Q : Vl → List Cell → Prop}, Dn (D5 * 36) r.1 ∧ Dn (D5 * 36) r.2 → zb r.1 ≤ 10000 ∧ zb r.2 ≤ 10000 → zb x ≤ 10000 → x.den ≤ 2 ^ 64 → Q (.d (fr (r.1 + x * r.2))) st → sp__law_at [.d (rayD r), .d (fr x)] st Q := fun {r x st Q} h1 h2 h3 h4 h => by
    have e1 := dn_den (by decide) h1.1
    have e2 := dn_den (by decide) h1.2
    exact lat_ok (by omega) (by omega) (by omega) (mul_lt h4 e2 (by decide)) (mul_lt e1 (Nat.le_trans (den_mul_le x r.2) (Nat.mul_le_mul h4 e2)) (by decide)) h
  have rs : ∀ s ∈ slopes, (Dn (D5 * 36) (appM A (hgt + q * s, s)).1 ∧ Dn (D5 * 36) (appM A (hgt + q * s, s)).2) ∧ zb (appM A (hgt + q * s, s)).1 ≤ 10000 ∧ zb (appM A (hgt + q * s, s)).2 ≤ 10000 := fun s hs => by
    obtain ⟨s1, s2, _⟩ := slope_dn hs
    have w1 := zb_mul q s
    have w2 := zb_add hgt (q * s)
    exact ⟨exit_dn hA (k := 3) (dn_add (dn_up 3 (pn_dn hh)) (dn_mul (pn_dn hq') s1)) s1, zr _ _ (by omega) (by omega)⟩
  have r0 := rs 0 (by unfold slopes; exact List.mem_cons_self)
  have r1 := rs 1 (by unfold slopes; exact List.mem_cons_of_mem _ List.mem_cons_self)
  have r2 := rs s3 (by unfold slopes; exact List.mem_cons_of_mem _ (List.mem_cons_of_mem _ List.mem_cons_self))
  have i64 : im.den ≤ 2 ^ 64 := Nat.le_trans dim (Nat.le_trans hN2 (by decide))
  let U : M := T z8 (some (.d (rayD (appM A (oth + q, 1))))) (some (.d (ofr (some im)))) (some (.d (ofr (some sca)))) (some (.d (fr (A.c * q + A.d)))) slopes
  refine next_st ?_
  dsimp only
  refine guard_st U (fun K hK => ?_) ?_
  · exact isfr_ok (x := im) (Nat.lt_of_le_of_lt i64 (by decide)) (isfr_ok (x := sca) (Nat.lt_of_le_of_lt (Nat.le_trans dsc hN2) (by decide)) hK)
  refine guard_st U (fun K hK => ?_) ?_
  · refine LAT (r := appM A (hgt + q * 0, 0)) (x := im) r0.1 r0.2 (by omega) i64 ?_
    refine LAT (r := appM A (hgt + q * 1, 1)) (x := im) r1.1 r1.2 (by omega) i64 ?_
    refine ⟨sh_ok sh_fr, sh_ok sh_fr, ?_⟩
    show if (!eqD (fr ((appM A (hgt + q * 0, 0)).1 + im * (appM A (hgt + q * 0, 0)).2)) (fr ((appM A (hgt + q * 1, 1)).1 + im * (appM A (hgt + q * 1, 1)).2))) = true then _ else _
    rw [hval, hval, neD_self]
    refine LAT (r := appM A (hgt + q * 1, 1)) (x := im) r1.1 r1.2 (by omega) i64 ?_
    refine LAT (r := appM A (hgt + q * s3, s3)) (x := im) r2.1 r2.2 (by omega) i64 ?_
    refine ⟨sh_ok sh_fr, sh_ok sh_fr, ?_⟩
    show K (!eqD (fr ((appM A (hgt + q * 1, 1)).1 + im * (appM A (hgt + q * 1, 1)).2)) (fr ((appM A (hgt + q * s3, s3)).1 + im * (appM A (hgt + q * s3, s3)).2))) _
    rw [hval, hval, neD_self]
    exact hK
  have z7 : zb (Rat.divInt 1 7) ≤ 6 := by decide
  have zi7 := zb_add im (Rat.divInt 1 7)
  have d7 : (Rat.divInt 1 7).den ≤ 7 := by decide
  have di7 : (im + Rat.divInt 1 7).den ≤ 2 ^ 64 := by
    have a : Dn (n2.natAbs * 7) (im + Rat.divInt 1 7) := dn_add (dn_up 7 dimage) (dn_upl n2.natAbs dn_7)
    have := dn_den (by omega) a
    omega
  refine guard_st U (fun K hK => ?_) ?_
  · refine ⟨lineN rfl, ?_⟩
    refine ladd17 (x := im) (zm (by omega)) (mul_lt i64 d7 (by decide)) ?_
    refine LAT (r := appM A (hgt + q * 0, 0)) (x := im + Rat.divInt 1 7) r0.1 r0.2 (by omega) di7 ?_
    refine ⟨lineN rfl, ?_⟩
    refine ladd17 (x := im) (zm (by omega)) (mul_lt i64 d7 (by decide)) ?_
    refine LAT (r := appM A (hgt + q * 1, 1)) (x := im + Rat.divInt 1 7) r1.1 r1.2 (by omega) di7 ?_
    refine ⟨sh_ok sh_fr, sh_ok sh_fr, ?_⟩
    show K (eqD (fr ((appM A (hgt + q * 0, 0)).1 + (im + Rat.divInt 1 7) * (appM A (hgt + q * 0, 0)).2)) (fr ((appM A (hgt + q * 1, 1)).1 + (im + Rat.divInt 1 7) * (appM A (hgt + q * 1, 1)).2))) _
    have h7 : Rat.divInt 1 7 ≠ 0 := by decide
    rw [hval7, hval7, eqD_fr, decide_eq_false (by grind)]
    exact hK
  have away := exit_dn hA (k := 1) (h0 := oth + q) (s := 1) (dn_add (pn_dn ho) (pn_dn hq')) ⟨1, by simp⟩
  have one1 := exit_dn hA (k := 1) (h0 := hgt + q * 1) (s := 1) (dn_add (pn_dn hh) (by rw [Rat.mul_one]; exact pn_dn hq')) ⟨1, by simp⟩
  have zaw := zr (oth + q) 1 (by omega) (by decide)
  have zo1 := zr (hgt + q * 1) 1 (by rw [Rat.mul_one]; have := zb_add hgt q; omega) (by decide)
  have dn1 := dn_den (Nat.mul_pos pN2 (by decide)) (at_dn away.1 away.2 dimage)
  have dn2 := dn_den (Nat.mul_pos pN2 (by decide)) (at_dn one1.1 one1.2 dimage)
  have b97 : n2.natAbs * (D5 * (12 * 1)) ≤ 7 * B5 * (D5 * 12) * (D5 * 12) := Nat.mul_le_mul (Nat.le_trans h2b (by decide)) (by decide)
  refine ret_st (m' := U) (.bl true) (fun K hK => ?_) rfl
  refine LAT (r := appM A (oth + q, 1)) (x := im) ⟨?_, ?_⟩ zaw (by omega) i64 ?_
  · have := dn_up 3 away.1
    exact this
  · have := dn_up 3 away.2
    exact this
  refine LAT (r := appM A (hgt + q * 1, 1)) (x := im) r1.1 r1.2 (by omega) i64 ?_
  have v1 := zb_add (appM A (oth + q, 1)).1 (im * (appM A (oth + q, 1)).2)
  have v2 := zb_mul im (appM A (oth + q, 1)).2
  have v3 := zb_add (appM A (hgt + q * 1, 1)).1 (im * (appM A (hgt + q * 1, 1)).2)
  have v4 := zb_mul im (appM A (hgt + q * 1, 1)).2
  refine lsub_ok2 (zm (by omega)) (mul_lt (Nat.le_trans dn1 b97) (Nat.le_trans dn2 b97) (by decide)) ?_
  rw [hlast]
  refine lsub_ok (x := oth) (y := hgt) (by omega) ?_
  have v5 := zb_sub oth hgt
  have v6 := dn_den (by decide) (dn_sub (pn_dn ho) (pn_dn hh))
  refine lmul_ok2 (x := sca) (y := oth - hgt) (zm (by omega)) (mul_lt (Nat.le_trans dsc hN2) v6 (by decide)) ?_
  refine ⟨sh_ok sh_fr, sh_ok sh_fr, ?_⟩
  show K (.d (.bl (eqD (fr (sca * (oth - hgt))) (fr (sca * (oth - hgt)))))) _
  rw [eqD_self]
  exact hK
end PG

set_option maxRecDepth 100000
set_option maxHeartbeats 4000000
namespace PG
open PySem PySem.Spec PyProof.Rows L2 RT
section
variable {x y : Rat} {st : List Cell} {Q : Vl → List Cell → Prop}
/-- lowest terms, by Euclid -/
theorem lfrac_ok {n d : Int} (hd : d ≠ 0) (h : Q (.d (fr (Rat.divInt n d))) st) : sp__law_frac [.d (.int n), .d (.int d)] st Q := by
  unfold sp__law_frac
  have hg : (Int.gcd n d : Int) ≠ 0 := by
    have : Int.gcd n d ≠ 0 := fun e => hd (Int.gcd_eq_zero_iff.mp e).2
    omega
  have hn : (Int.gcd n d : Int) ∣ n := Int.gcd_dvd_left ..
  have hd' : (Int.gcd n d : Int) ∣ d := Int.gcd_dvd_right ..
  have e1 : (Rat.divInt n d).num = d.sign * n / Int.gcd n d := by rw [Rat.num_divInt, Int.gcd_comm]
  have e2 : (((Rat.divInt n d).den : Nat) : Int) = d.sign * d / Int.gcd n d := by
    rw [Rat.den_divInt, if_neg hd, Int.natCast_ediv, Int.gcd_comm, sign_self]
  have fin : ∀ s : Int, (s = 1 ∨ s = -1) → s = d.sign → s * (Int.gcd n d : Int) ≠ 0 ∧ s * (Int.gcd n d : Int) ≠ 0 ∧ Q (.d (.tup [.int (n.fdiv (s * Int.gcd n d)), .int (d.fdiv (s * Int.gcd n d))])) st := fun s hs e => by
    refine ⟨by rcases hs with rfl | rfl <;> omega, by rcases hs with rfl | rfl <;> omega, ?_⟩
    rw [sgn_div hg hn hs, sgn_div hg hd' hs, e, ← e1, ← e2]
    exact h
  refine ⟨rfl, ?_⟩
  refine seq_to ⟨[some (.d (.int n)), some (.d (.int d)), some (.d (.int n.natAbs)), none], st⟩ (fun K hK => by rw [← abs_eq n] at hK; exact hK) ?_
  refine seq_to ⟨[some (.d (.int n)), some (.d (.int d)), some (.d (.int n.natAbs)), some (.d (.int d.natAbs))], st⟩ (fun K hK => by rw [← abs_eq d] at hK; exact hK) ?_
  refine seq_to ⟨[some (.d (.int n)), some (.d (.int d)), some (.d (.int (Int.gcd n d : Int))), some (.d (.int 0))], st⟩ (fun K hK => ?_) ?_
  · refine ⟨fun k m => ∃ x y : Nat, m = ⟨[some (.d (.int n)), some (.d (.int d)), some (.d (.int x)), some (.d (.int y))], st⟩ ∧ k = y ∧ Nat.gcd x y = Int.gcd n d, ⟨d.natAbs, n.natAbs, d.natAbs, rfl, rfl, rfl⟩, ?_⟩
    rintro y m ⟨x, _, rfl, rfl, hgc⟩
    refine ⟨trivial, ?_⟩
    show if (decide ((0 : Int) < y)) = true then _ else _
    by_cases hy : (0 : Int) < y
    · rw [if_pos (decide_eq_true hy)]
      refine ⟨by omega, ?_⟩
      refine ⟨x % y, Nat.mod_lt _ (by omega), y, x % y, ?_, rfl, ?_⟩
      · rw [Int.natCast_emod, ← Int.fmod_eq_emod_of_nonneg _ (by omega)]
        rfl
      · rw [← hgc, Nat.gcd_comm x y, Nat.gcd_rec y x, Nat.gcd_comm]
    · rw [if_neg (by simp; omega)]
      have e : y = 0 := by omega
      subst e
      rw [Nat.gcd_zero_right] at hgc
      rw [← hgc] at hK
      exact hK
  refine ⟨trivial, ?_⟩
  show if (decide (d < 0)) = true then _ else _
  by_cases hs : d < 0
  · rw [if_pos (decide_eq_true hs)]
    obtain ⟨a, b, c⟩ := fin (-1) (.inr rfl) (Int.sign_eq_neg_one_of_neg hs).symm
    rw [Int.neg_one_mul] at a b c
    exact ⟨a, b, lineN rfl, tk c⟩
  · rw [if_neg (by simp; omega)]
    obtain ⟨a, b, c⟩ := fin 1 (.inl rfl) (Int.sign_eq_one_of_pos (by omega)).symm
    rw [Int.one_mul] at a b c
    exact ⟨a, b, lineN rfl, tk c⟩
theorem ladd2_ok (hz : zb x + zb y < ZM) (h : Q (.d (fr (x + y))) st) : sp__law_add_2 [.d (fr x), .d (fr y)] st Q := by
  unfold sp__law_add_2
  refine ⟨rfl, mk_nn (zb_num x) (dn y) hz, mk_nn (zb_num y) (dn x) (by omega), mk_nn (dn x) (dn y) hz, ?_⟩
  refine lfrac_ok (mul_nn x y) (tk ?_)
  rw [← add_val]
  exact h
theorem lneg_ok (h : Q (.d (fr (-x))) st) : sp__law_neg [.d (fr x)] st Q := by
  unfold sp__law_neg
  refine ⟨rfl, lineN rfl, tk ?_⟩
  have e : fr (-x) = .tup [.int (-x.num), .int x.den] := by
    unfold fr
    rw [Rat.neg_num, Rat.neg_den]
  rw [e] at h
  exact h
theorem lsub2_ok (hz : zb x + zb y < ZM) (h : Q (.d (fr (x - y))) st) : sp__law_sub_2 [.d (fr x), .d (fr y)] st Q := by
  unfold sp__law_sub_2
  refine ⟨rfl, lneg_ok ?_⟩
  refine ladd2_ok (by rw [zb_neg]; exact hz) (tk ?_)
  rw [← Rat.sub_eq_add_neg]
  exact h
theorem lmul2_ok (hz : zb x + zb y < ZM) (h : Q (.d (fr (x * y))) st) : sp__law_mul_2 [.d (fr x), .d (fr y)] st Q := by
  unfold sp__law_mul_2
  refine ⟨rfl, mk_nn (zb_num x) (zb_num y) hz, mk_nn (dn x) (dn y) hz, ?_⟩
  refine lfrac_ok (mul_nn x y) (tk ?_)
  rw [← mul_val]
  exact h
theorem ldiv_ok (hy : y ≠ 0) (hz : zb x + zb y < ZM) (h : Q (.d (fr (x / y))) st) : sp__law_div [.d (fr x), .d (fr y)] st Q := by
  unfold sp__law_div
  refine ⟨rfl, mk_nn (zb_num x) (dn y) hz, mk_nn (dn x) (zb_num y) hz, ?_⟩
  refine lfrac_ok (Int.mul_ne_zero (den_pos x) (num_nz hy)) (tk ?_)
  rw [← div_val x hy]
  exact h
/-- the same text -/
theorem same_ok {d : Dt} (hs : shows d) (h : Q (.d (.bl true)) st) : sp__law_same [.d d, .d d] st Q := by
  unfold sp__law_same
  refine ⟨rfl, hs, hs, tk ?_⟩
  have e : decide (reprD d = reprD d) = true := decide_eq_true rfl
  rw [e]
  exact h
end
end PG

set_option maxRecDepth 100000
set_option maxHeartbeats 4000000
namespace PG
open PySem PySem.Spec PyProof.Rows L2 RT
theorem draw2_ok {ds : List Int} {i k : Nat} {n : Int} {st : List Cell} {Q : Vl → List Cell → Prop} (hk : st[k]? = some (Bx ds i)) (hn : 0 < n) (hi3 : i < 1000000) (h : ∀ r : Int, 0 ≤ r → r < n → Q (.d (.int r)) (st.set k (Bx ds (i + 1)))) :
    sp__law_draw_2 [.c k, .d (.int n)] st Q := by
  have hlt : k < st.length := (List.getElem?_eq_some_iff.mp hk).1
  have hs : (st.set k (Bx ds (i + 1)))[k]? = some (Bx ds (i + 1)) := by simp [hlt]
  have hl : (st.set k (Bx ds (i + 1))).length = st.length := List.length_set
  unfold sp__law_draw_2
  refine ⟨rfl, ?_⟩
  refine onV_c hk ?_
  refine onC_mk hk ?_
  refine onJ_mk (j := 1) rfl ?_
  have e0 : ([Dt.lst (ds.map .int), Dt.int i].set 1 (Dt.int (i + 1))) = [Dt.lst (ds.map .int), Dt.int ((i + 1 : Nat) : Int)] := rfl
  dsimp only
  rw [e0]
  change dSeq (dIfS _ _ _) _ _ ⟨_, st.set k (Bx ds (i + 1))⟩
  refine onV_c hs ?_
  refine onV_d (rIx_mk (z := Dt.lst (ds.map .int)) rfl ?_)
  refine ⟨trivial, ?_⟩
  show if (decide ((i : Int) < ((ds.map Dt.int).length : Int))) = true then _ else _
  rw [List.length_map]
  by_cases hi : (i : Int) < (ds.length : Int)
  · rw [if_pos (decide_eq_true hi)]
    refine onV_c hs ?_
    refine onV_d (rIx_mk (z := Dt.lst (ds.map .int)) rfl ?_)
    refine ix_ints (ns := ds) (k := (i : Int)) (by omega) (by omega) ?_
    refine ⟨by show n ≠ 0; omega, ?_⟩
    obtain ⟨b0, b1⟩ := fmod_bd (ds.getD (i : Int).toNat 0) hn
    have := h _ b0 b1
    rw [← hl]
    exact tk this
  · rw [if_neg (by simp; omega)]
    have li := log2_small (v := (i : Int)) (n := 20) (by omega) (by omega) (by decide)
    refine ⟨mulok (by rw [show (7 : Int).natAbs.log2 = 2 by decide]; unfold ZM; omega), ?_⟩
    refine ⟨by show n ≠ 0; omega, ?_⟩
    obtain ⟨b0, b1⟩ := fmod_bd ((i : Int) * 7 + 3) hn
    have := h _ b0 b1
    rw [← hl]
    exact tk this
end PG

set_option maxRecDepth 100000
set_option maxHeartbeats 4000000
namespace PG
open PySem PySem.Spec PyProof.Rows L2 RT
theorem row_ok {v k : Int} {st : List Cell} {Q : Vl → List Cell → Prop} (hv : v.natAbs.log2 ≤ 1048576) (hk0 : 0 ≤ k) (hk1 : k ≤ 100) (h : ∀ ds : List Int, Dg ds → ds.length ≤ 60 → Q (.d (.lst (ds.map .int))) st) :
    sp__law_row [.d (.int v), .d (.int k), .d (.int 12)] st Q := by
  unfold sp__law_row
  refine ⟨rfl, lineN rfl, ?_⟩
  dsimp only
  let S : Int → List Int → Option Vl → Option Vl → M := fun v ds z4 z5 => ⟨[some (.d (.int v)), some (.d (.int k)), some (.d (.int 12)), some (.c st.length), z4, z5], st ++ [.lst (ds.map .int)]⟩
  have ret : ∀ (v : Int) (ds : List Int) (z4 z5 : Option Vl), Dg ds → ds.length ≤ 60 → dRet (dVar 3) (endsOf false st.length Q) (S v ds z4 z5) := fun v ds z4 z5 hd hl => by
    show if st.length < st.length then _ else onC (st ++ [Cell.lst (ds.map Dt.int)]) st.length _
    rw [if_neg (Nat.lt_irrefl _)]
    refine onC_mk (getElem_last _ _) ?_
    rw [if_neg (by decide)]
    show Q (.d (.lst (ds.map .int))) ((st ++ [Cell.lst (ds.map Dt.int)]).take st.length)
    rw [List.take_left]
    exact h ds hd hl
  refine seq_mid (fun m' => ∃ v : Int, m' = S v [] none none ∧ 0 ≤ v ∧ v.natAbs.log2 ≤ 1048580) (fun K' hK' => ?_) ?_
  · refine ⟨trivial, ?_⟩
    show if (decide (v < 0)) = true then _ else _
    by_cases hv0 : v < 0
    · rw [if_pos (decide_eq_true hv0)]
      refine ⟨?_, trivial, hK' _ ⟨1 - 2 * v, rfl, by omega, ?_⟩⟩
      · show (2 : Int).natAbs.log2 + v.natAbs.log2 < 67108864
        have : (2 : Int).natAbs.log2 = 1 := by decide
        omega
      · have e : (1 - 2 * v).natAbs = 1 + 2 * v.natAbs := by omega
        rw [e]
        have h1 := @log2_add_le 1 (2 * v.natAbs)
        have h2 := @log2_mul_le 2 v.natAbs
        have h3 : Nat.log2 2 = 1 := by decide
        have h4 : Nat.log2 1 = 0 := by decide
        omega
    · rw [if_neg (by simp; omega)]
      exact hK' _ ⟨v, rfl, by omega, by omega⟩
  rintro _ ⟨v, rfl, hv0, hvb⟩
  refine ⟨⟨by decide, by decide, by decide⟩, trivial, ?_⟩
  show if (decide ((10 : Int) ^ 18 ≤ v)) = true then _ else _
  by_cases hbig : (10 : Int) ^ 18 ≤ v
  · rw [if_pos (decide_eq_true hbig)]
    refine ⟨⟨by decide, by decide⟩, ?_⟩
    refine range_inv (fun j l m => ∃ (ds' : List Int) (v : Int) (z : Option Vl), m = S v ds' z none ∧ Dg ds' ∧ ds'.length + j ≤ 60) ?_ ?_ 60 0 _ ⟨[], v, none, rfl, (show Dg [] from fun d hd => nomatch hd), Nat.le_refl _⟩
    · rintro j l m K2 hK2 ⟨ds', v, z, rfl, hd', hl2⟩
      refine ⟨trivial, ?_⟩
      show if (decide ((0 : Int) < v)) = true then _ else _
      by_cases hvp : (0 : Int) < v
      · rw [if_pos (decide_eq_true hvp)]
        refine onV_c (getElem_last _ _) ?_
        refine ⟨trivial, ?_⟩
        show if (decide (((ds'.map Dt.int).length : Int) < 12)) = true then _ else _
        by_cases h12 : ((ds'.map Dt.int).length : Int) < 12
        · rw [if_pos (decide_eq_true h12)]
          refine ⟨⟨_, getElem_last _ _⟩, k1000, onC_mk (getElem_last _ _) ⟨small_lt (by rw [List.length_map]; omega), k1000, ?_⟩⟩
          obtain ⟨b0, b1⟩ := fmod_bd v (n := 1000) (by decide)
          refine hK2 _ ⟨ds' ++ [v.fmod 1000], v.fdiv 1000, some (.d (.int l)), ?_, hd'.app b0 b1, by rw [List.length_append, List.length_singleton]; omega⟩
          exact congrArg (M.mk _) push_st
        · rw [if_neg (by simpa using h12)]
          exact hK2 _ ⟨ds', v, some (.d (.int l)), rfl, hd', by omega⟩
      · rw [if_neg (by simp; omega)]
        exact hK2 _ ⟨ds', v, some (.d (.int l)), rfl, hd', by omega⟩
    · rintro l m ⟨ds', v, z, rfl, hd', hl2⟩
      exact ret v ds' z none hd' (by omega)
  · rw [if_neg (by simp; omega)]
    have hv18 : v < 2 ^ 60 := by
      have : (10 : Int) ^ 18 < 2 ^ 60 := by decide
      omega
    have lv := log2_small hv0 hv18 (by decide)
    have llo := log2_small (v := k) (n := 7) hk0 (by omega) (by decide)
    refine ⟨?_, ?_, kMx, ?_⟩
    · show v.natAbs.log2 + (48271 : Int).natAbs.log2 < 67108864
      have : (48271 : Int).natAbs.log2 = 15 := by decide
      omega
    · show k.natAbs.log2 + (69621 : Int).natAbs.log2 < 67108864
      have : (69621 : Int).natAbs.log2 = 16 := by decide
      omega
    refine ⟨⟨by decide, by decide⟩, ?_⟩
    obtain ⟨s0, s1⟩ := fmod_bd (v * 48271 + k * 69621 + 11) (n := 2147483647) (by decide)
    refine range_inv (fun j l m => ∃ (ds' : List Int) (sd : Int) (z : Option Vl), m = S v ds' z (some (.d (.int sd))) ∧ Dg ds' ∧ ds'.length + j ≤ 12 ∧ 0 ≤ sd ∧ sd < 2147483647 ∧ 0 ≤ l ∧ l + j = 12) ?_ ?_ 12 0 _ ⟨[], _, none, rfl, (show Dg [] from fun d hd => nomatch hd), Nat.le_refl _, s0, s1, by decide, by decide⟩
    · rintro j l m K2 hK2 ⟨ds', sd, z, rfl, hd', hl2, c0, c1, l0, l1⟩
      have lsd := log2_small (n := 31) c0 (by omega) (by decide)
      have ll := log2_small (v := l) (n := 4) l0 (by omega) (by decide)
      refine ⟨?_, ?_, kMx, ?_⟩
      · show sd.natAbs.log2 + (16807 : Int).natAbs.log2 < 67108864
        have : (16807 : Int).natAbs.log2 = 14 := by decide
        omega
      · show (7 : Int).natAbs.log2 + l.natAbs.log2 < 67108864
        have : (7 : Int).natAbs.log2 = 2 := by decide
        omega
      obtain ⟨t0, t1⟩ := fmod_bd (sd * 16807 + 7 * l + 1) (n := 2147483647) (by decide)
      refine ⟨⟨_, getElem_last _ _⟩, k997, k1000, onC_mk (getElem_last _ _) ⟨small_lt (by rw [List.length_map]; omega), ?_⟩⟩
      obtain ⟨b0, b1⟩ := fmod_bd (((sd * 16807 + 7 * l + 1).fmod 2147483647).fdiv 997) (n := 1000) (by decide)
      refine hK2 _ ⟨ds' ++ [(((sd * 16807 + 7 * l + 1).fmod 2147483647).fdiv 997).fmod 1000], _, some (.d (.int l)), ?_, hd'.app b0 b1, by rw [List.length_append, List.length_singleton]; omega, t0, t1, by omega, by omega⟩
      exact congrArg (M.mk _) push_st
    · rintro l m ⟨ds', sd, z, rfl, hd', hl2, _⟩
      exact ret v ds' z _ hd' (by omega)
theorem box_ok {ns : List Int} {b : Int} {st : List Cell} {Q : Vl → List Cell → Prop} (hb : Bits ns) (h0 : 0 ≤ b) (h2 : b ≤ 100) (h : ∀ ds : List Int, Dg ds → ds.length ≤ 6000 → Q (.c st.length) (st ++ [Bx ds 0])) :
    sp__law_box [.d (.lst (ns.map .int)), .d (.int 0), .d (.int b)] st Q := by
  unfold sp__law_box
  refine ⟨rfl, lineN rfl, ?_⟩
  refine ⟨⟨⟨by decide, by decide⟩, ⟨by omega, by omega⟩⟩, ?_⟩
  refine range_inv (fun n lo m => ∃ (ds : List Int) (z : Option Vl), m = ⟨[some (.d (.lst (ns.map .int))), some (.d (.int 0)), some (.d (.int b)), some (.d (.lst (ds.map .int))), z], st⟩ ∧ Dg ds ∧ 0 ≤ lo ∧ lo + n = b ∧ ds.length ≤ 60 * lo.toNat) ?_ ?_ (b - 0).toNat 0 _ ⟨[], none, rfl, (show Dg [] from fun d hd => nomatch hd), Int.le_refl _, by omega, Nat.zero_le _⟩
  · rintro n lo m K hK ⟨ds, z, rfl, hd, hlo, hn, hl⟩
    refine cell_ok hb (by omega) fun v hv => ?_
    refine row_ok hv hlo (by omega) fun ds2 hd2 hl2 => ?_
    refine ⟨?_, ?_⟩
    · rw [List.length_map, List.length_map]
      exact Nat.le_of_lt (small_lt (by omega))
    · refine hK _ ⟨ds ++ ds2, some (.d (.int lo)), ?_, fun d hx => (List.mem_append.mp hx).elim (hd d) (hd2 d), by omega, by omega, by rw [List.length_append]; omega⟩
      rw [List.map_append]
      rfl
  · rintro lo m ⟨ds, z, rfl, hd, hlo, hn, hl⟩
    refine ⟨lineN rfl, ?_⟩
    show if st.length < st.length then _ else onC (st ++ [Bx ds 0]) st.length _
    rw [if_neg (Nat.lt_irrefl _)]
    refine onC_mk (getElem_last _ _) ?_
    rw [if_pos rfl]
    show Q (.c st.length) ((st ++ [Bx ds 0]).take st.length ++ [Bx ds 0])
    rw [List.take_left]
    exact h ds hd (by omega)
end PG

set_option maxRecDepth 100000
set_option maxHeartbeats 4000000
namespace PG
open PySem PySem.Spec PyProof.Rows L2 RT
theorem ZM_eq : ZM = 60000000 := rfl
theorem slt {n : Nat} (h : Nat.ble n 1000 = true) : n < sizeLine := small_lt (Nat.lt_of_le_of_lt (Nat.le_of_ble_eq_true h) (by decide))
/-- any, all over a list whose items are tested one by one -/
theorem gx_all {α : Type} (f : α → Dt) (p : α → Bool) {sl slw : List (Option Vl)} {g : Tgt} {te : DE} {all : List Dt} {K : Bool → M → Prop} {st : List Cell} :
    ∀ {xs : List α}, (∀ x ∈ xs, ∀ (C : Vl → M → Prop), (∀ sl', C (.d (.bl (p x))) ⟨sl', st⟩) → tgD g (.d (f x)) ⟨slw, st⟩ fun m1 => te m1 C) → K (xs.all p) ⟨sl, st⟩ → dGxGo true sl slw g te all none K (xs.map f) st
  | [], _, h => ⟨trivial, h⟩
  | x :: r, hs, h => ⟨trivial, hs x List.mem_cons_self _ fun sl' => by
    show if p x = true then _ else _
    rw [List.all_cons] at h
    cases hp : p x with
    | true =>
      rw [hp, Bool.true_and] at h
      rw [if_pos rfl]
      exact gx_all f p (fun y hy => hs y (List.mem_cons_of_mem _ hy)) h
    | false =>
      rw [hp, Bool.false_and] at h
      rw [if_neg (by decide)]
      exact h⟩
theorem gx_any {α : Type} (f : α → Dt) (p : α → Bool) {sl slw : List (Option Vl)} {g : Tgt} {te : DE} {all : List Dt} {K : Bool → M → Prop} {st : List Cell} :
    ∀ {xs : List α}, (∀ x ∈ xs, ∀ (C : Vl → M → Prop), (∀ sl', C (.d (.bl (p x))) ⟨sl', st⟩) → tgD g (.d (f x)) ⟨slw, st⟩ fun m1 => te m1 C) → K (xs.any p) ⟨sl, st⟩ → dGxGo false sl slw g te all none K (xs.map f) st
  | [], _, h => ⟨trivial, h⟩
  | x :: r, hs, h => ⟨trivial, hs x List.mem_cons_self _ fun sl' => by
    show if p x = false then _ else _
    rw [List.any_cons] at h
    cases hp : p x with
    | false =>
      rw [hp, Bool.false_or] at h
      rw [if_pos rfl]
      exact gx_any f p (fun y hy => hs y (List.mem_cons_of_mem _ hy)) h
    | true =>
      rw [hp, Bool.true_or] at h
      rw [if_neg (by decide)]
      exact h⟩
/-! half-planes -/
structure Hp3 where
  p : Int
  q : Int
  r : Int
  deriving DecidableEq
def hpD (h : Hp3) : Dt := .tup [.int h.p, .int h.q, .int h.r]
/-- its sizes -/
def HZ (n : Nat) (h : Hp3) : Prop := h.p.natAbs.log2 + 2 ≤ n ∧ h.q.natAbs.log2 + 2 ≤ n ∧ h.r.natAbs.log2 + 2 ≤ n
def valH (h : Hp3) (x : Ray) : Rat := (h.p : Rat) * x.1 + (h.q : Rat) * x.2
def hasH (x : Ray) (h : Hp3) : Bool := decide (valH h x ≤ (h.r : Rat))
theorem divInt_one (n : Int) : Rat.divInt n 1 = (n : Rat) := by
  rw [Rat.divInt_eq_div]
  show (n : Rat) / ((1 : Int) : Rat) = (n : Rat)
  rw [Rat.intCast_one]
  grind
theorem zb_int (n : Int) : zb (n : Rat) ≤ n.natAbs.log2 + 2 := by
  unfold zb
  rw [Rat.num_intCast, Rat.den_intCast]
  have : Nat.log2 1 = 0 := by decide
  omega
section
variable {st : List Cell} {Q : Vl → List Cell → Prop}
theorem frac1_ok {n : Int} (h : Q (.d (fr (n : Rat))) st) : sp_fraction [.d (.int n), .d (.int 1)] st Q := by
  refine fraction_ok (by decide) ?_
  rw [divInt_one]
  exact h
theorem value_ok {g : Hp3} {x : Ray} {n : Nat} (hg : HZ n g) (h1 : zb x.1 ≤ n) (h2 : zb x.2 ≤ n) (hn : n ≤ 10000000) (h : Q (.d (fr (valH g x))) st) : sp_value_at [.d (hpD g), .d (rayD x)] st Q := by
  unfold sp_value_at
  obtain ⟨g1, g2, g3⟩ := hg
  have w1 := zb_int g.p
  have w2 := zb_int g.q
  have w3 := zb_mul (g.p : Rat) x.1
  have w4 := zb_mul (g.q : Rat) x.2
  refine ⟨rfl, frac1_ok (multiply_ok (zm (by omega)) (frac1_ok (multiply_ok (zm (by omega)) (add_ok (zm (by omega)) (tk h)))))⟩
theorem valH_z {g : Hp3} {x : Ray} {n : Nat} (hg : HZ n g) (h1 : zb x.1 ≤ n) (h2 : zb x.2 ≤ n) : zb (valH g x) ≤ 4 * n := by
  obtain ⟨g1, g2, g3⟩ := hg
  have w1 := zb_int g.p
  have w2 := zb_int g.q
  have w3 := zb_mul (g.p : Rat) x.1
  have w4 := zb_mul (g.q : Rat) x.2
  have w5 := zb_add ((g.p : Rat) * x.1) ((g.q : Rat) * x.2)
  unfold valH
  omega
theorem contains_ok {hs : List Hp3} {x : Ray} {n : Nat} (hg : ∀ g ∈ hs, HZ n g) (h1 : zb x.1 ≤ n) (h2 : zb x.2 ≤ n) (hn : n ≤ 5000000) (h : Q (.d (.bl (hs.all (hasH x)))) st) : sp_contains_ray [.d (.lst (hs.map hpD)), .d (rayD x)] st Q := by
  unfold sp_contains_ray
  refine ⟨rfl, gx_all hpD (hasH x) (fun g hgm C hC => ?_) (tk h)⟩
  have z := hg g hgm
  refine value_ok z h1 h2 (by omega) (frac1_ok ?_)
  have w1 := valH_z z h1 h2
  have w2 := zb_int g.r
  have w3 := z.2.2
  refine compare_ok (zm (by omega)) ⟨trivial, ?_⟩
  have e : decide (sgn (valH g x - (g.r : Rat)) ≤ 0) = hasH x g := decide_eq_decide.mpr (sgn_le _ _)
  have hC' := hC (List.set (wipeD (startM 3 [Vl.d (Dt.lst (List.map hpD hs)), Vl.d (rayD x)] st).sl [2]) 2 (some (Vl.d (hpD g))))
  rw [← e] at hC'
  exact hC'
end
/-! the half-plane of three fractions -/
def mkX (p q r : Rat) : Int := p.num * (q.den * r.den)
def mkY (p q r : Rat) : Int := q.num * (p.den * r.den)
def mkZ (p q r : Rat) : Int := r.num * (p.den * q.den)
def mkG (p q r : Rat) : Int := (Int.gcd (Int.gcd (mkX p q r) (mkY p q r) : Int) (mkZ p q r) : Int)
def mkH (p q r : Rat) : Hp3 := ⟨mkX p q r / mkG p q r, mkY p q r / mkG p q r, mkZ p q r / mkG p q r⟩
theorem den_pos' (x : Rat) : (0 : Int) < (x.den : Int) := by
  have := x.den_pos
  omega
theorem denR_pos (x : Rat) : (0 : Rat) < (x.den : Rat) := by
  have := x.den_pos
  exact Rat.natCast_pos.mpr this
theorem num_den (x : Rat) : (x.num : Rat) = x * (x.den : Rat) := by
  have h := denR_pos x
  have e : x = (x.num : Rat) / (x.den : Rat) := by
    conv => lhs; rw [← Rat.num_divInt_den x]
    rw [Rat.divInt_eq_div, Rat.intCast_natCast]
  generalize (x.num : Rat) = a at *
  generalize (x.den : Rat) = b at *
  grind
section
variable {p q r : Rat}
theorem mkG_pos (h : ¬ (p = 0 ∧ q = 0)) : 0 < mkG p q r := by
  unfold mkG
  have : Int.gcd (Int.gcd (mkX p q r) (mkY p q r) : Int) (mkZ p q r) ≠ 0 := fun e => by
    have e1 := (Int.gcd_eq_zero_iff.mp e).1
    have e2 : Int.gcd (mkX p q r) (mkY p q r) = 0 := by omega
    obtain ⟨e3, e4⟩ := Int.gcd_eq_zero_iff.mp e2
    have dp := den_pos' p
    have dq := den_pos' q
    have dr := den_pos' r
    have n1 : (q.den : Int) * r.den ≠ 0 := Int.mul_ne_zero (by omega) (by omega)
    have n2 : (p.den : Int) * r.den ≠ 0 := Int.mul_ne_zero (by omega) (by omega)
    refine h ⟨Rat.num_eq_zero.mp ?_, Rat.num_eq_zero.mp ?_⟩
    · rcases Int.mul_eq_zero.mp e3 with z | z
      · exact z
      · exact (n1 z).elim
    · rcases Int.mul_eq_zero.mp e4 with z | z
      · exact z
      · exact (n2 z).elim
  omega
theorem mk_dvd : mkG p q r ∣ mkX p q r ∧ mkG p q r ∣ mkY p q r ∧ mkG p q r ∣ mkZ p q r := by
  unfold mkG
  have h1 : (Int.gcd (Int.gcd (mkX p q r) (mkY p q r) : Int) (mkZ p q r) : Int) ∣ (Int.gcd (mkX p q r) (mkY p q r) : Int) := Int.gcd_dvd_left ..
  exact ⟨Int.dvd_trans h1 (Int.gcd_dvd_left ..), Int.dvd_trans h1 (Int.gcd_dvd_right ..), Int.gcd_dvd_right ..⟩
theorem ediv_cast {a g : Int} (hg : g ≠ 0) (h : g ∣ a) : ((a / g : Int) : Rat) * (g : Rat) = (a : Rat) := by
  obtain ⟨k, rfl⟩ := h
  rw [Int.mul_ediv_cancel_left _ hg, Rat.intCast_mul]
  grind
theorem mkH_spec (h : ¬ (p = 0 ∧ q = 0)) : ∃ t : Rat, 0 < t ∧ ((mkH p q r).p : Rat) = t * p ∧ ((mkH p q r).q : Rat) = t * q ∧ ((mkH p q r).r : Rat) = t * r := by
  have hg := mkG_pos (r := r) h
  obtain ⟨d1, d2, d3⟩ := mk_dvd (p := p) (q := q) (r := r)
  have hgn : mkG p q r ≠ 0 := by omega
  have c1 := ediv_cast hgn d1
  have c2 := ediv_cast hgn d2
  have c3 := ediv_cast hgn d3
  have hgr : (0 : Rat) < (mkG p q r : Rat) := Rat.intCast_pos.mpr hg
  have dp := denR_pos p
  have dq := denR_pos q
  have dr := denR_pos r
  have x1 : (mkX p q r : Rat) = p * (p.den : Rat) * ((q.den : Rat) * (r.den : Rat)) := by
    unfold mkX
    rw [Rat.intCast_mul, Rat.intCast_mul, num_den p]
    simp only [Rat.intCast_natCast]
  have x2 : (mkY p q r : Rat) = q * (q.den : Rat) * ((p.den : Rat) * (r.den : Rat)) := by
    unfold mkY
    rw [Rat.intCast_mul, Rat.intCast_mul, num_den q]
    simp only [Rat.intCast_natCast]
  have x3 : (mkZ p q r : Rat) = r * (r.den : Rat) * ((p.den : Rat) * (q.den : Rat)) := by
    unfold mkZ
    rw [Rat.intCast_mul, Rat.intCast_mul, num_den r]
    simp only [Rat.intCast_natCast]
  have hs : (0 : Rat) < (p.den : Rat) * (q.den : Rat) * (r.den : Rat) := Rat.mul_pos (Rat.mul_pos dp dq) dr
  refine ⟨(p.den : Rat) * (q.den : Rat) * (r.den : Rat) / (mkG p q r : Rat), ?_, ?_, ?_, ?_⟩
  · rw [Rat.div_def]
    exact Rat.mul_pos hs (Rat.inv_pos.mpr hgr)
  · show ((mkX p q r / mkG p q r : Int) : Rat) = _
    rw [x1] at c1
    generalize (mkG p q r : Rat) = g at *
    grind
  · show ((mkY p q r / mkG p q r : Int) : Rat) = _
    rw [x2] at c2
    generalize (mkG p q r : Rat) = g at *
    grind
  · show ((mkZ p q r / mkG p q r : Int) : Rat) = _
    rw [x3] at c3
    generalize (mkG p q r : Rat) = g at *
    grind
theorem lg3 {a : Int} {b c g : Nat} {s : Int} (h : s = (a * (b * c)) / g) : s.natAbs.log2 ≤ a.natAbs.log2 + b.log2 + c.log2 + 2 := by
  subst h
  have h1 : ((a * (b * c)) / (g : Int)).natAbs ≤ (a * (b * c)).natAbs := Int.natAbs_ediv_le_natAbs ..
  have h2 := log2_mono h1
  rw [Int.natAbs_mul, Int.natAbs_mul, Int.natAbs_natCast, Int.natAbs_natCast] at h2
  have h3 := @log2_mul_le a.natAbs (b * c)
  have h4 := @log2_mul_le b c
  omega
theorem mkH_z {n : Nat} (hn : zb p + zb q + zb r ≤ n) : HZ n (mkH p q r) := by
  have p1 := zb_num p
  have p2 := zb_den p
  have q1 := zb_num q
  have q2 := zb_den q
  have r1 := zb_num r
  have r2 := zb_den r
  refine ⟨?_, ?_, ?_⟩
  · have := lg3 (a := p.num) (b := q.den) (c := r.den) (g := Int.gcd (Int.gcd (mkX p q r) (mkY p q r) : Int) (mkZ p q r)) (s := (mkH p q r).p) rfl
    omega
  · have := lg3 (a := q.num) (b := p.den) (c := r.den) (g := Int.gcd (Int.gcd (mkX p q r) (mkY p q r) : Int) (mkZ p q r)) (s := (mkH p q r).q) rfl
    omega
  · have := lg3 (a := r.num) (b := p.den) (c := q.den) (g := Int.gcd (Int.gcd (mkX p q r) (mkY p q r) : Int) (mkZ p q r)) (s := (mkH p q r).r) rfl
    omega
theorem fdiv_pos {a g : Int} (hg : 0 < g) : a.fdiv g = a / g := by
  rw [Int.fdiv_eq_ediv_of_nonneg _ (by omega)]
theorem sh_fr' {q : Rat} : shD (fr q) := sh_ok sh_fr
theorem mkplane_ok {st : List Cell} {Q : Vl → List Cell → Prop} {n : Nat} (h0 : ¬ (p = 0 ∧ q = 0)) (hp : zb p ≤ n) (hq : zb q ≤ n) (hr : zb r ≤ n) (hn : n ≤ 1000000) (h : Q (.d (hpD (mkH p q r))) st) : sp_make_half_plane [.d (fr p), .d (fr q), .d (fr r)] st Q := by
  have p1 := zb_num p
  have p2 := zb_den p
  have q1 := zb_num q
  have q2 := zb_den q
  have r1 := zb_num r
  have r2 := zb_den r
  have dp := den_pos' p
  have dq := den_pos' q
  have dr := den_pos' r
  unfold sp_make_half_plane
  refine ⟨rfl, ?_⟩
  let S : Option Vl → Option Vl → Option Vl → M := fun z3 z4 z5 => ⟨[some (.d (fr p)), some (.d (fr q)), some (.d (fr r)), z3, z4, z5, none], st⟩
  refine guard_st (S none none none) (fun K hK => ?_) ?_
  · refine ⟨sh_fr', sh_fr' (q := 0), ?_⟩
    show if eqD (fr p) (fr 0) = true then _ else _
    rw [eqD_fr]
    by_cases c : p = 0
    · rw [if_pos (decide_eq_true c)]
      refine ⟨sh_fr', sh_fr' (q := 0), ?_⟩
      show K (eqD (fr q) (fr 0)) _
      rw [eqD_fr, decide_eq_false (fun e => h0 ⟨c, e⟩)]
      exact hK
    · rw [if_neg (by simpa using c)]
      exact hK
  have m1 := @log2_mul_le p.den q.den
  have m2 := @log2_mul_le q.den r.den
  have m3 := @log2_mul_le p.den r.den
  refine ⟨mulok (by rw [Int.natAbs_natCast, Int.natAbs_natCast]; exact zm (by omega)), mulok (by rw [Int.natAbs_mul, Int.natAbs_natCast, Int.natAbs_natCast, Int.natAbs_natCast]; exact zm (by omega)), ?_⟩
  have nS : (p.den : Int) * q.den * r.den ≠ 0 := Int.mul_ne_zero (Int.mul_ne_zero (by omega) (by omega)) (by omega)
  have f1 : ((p.den : Int) * q.den * r.den).fdiv p.den = q.den * r.den := by
    rw [Int.mul_assoc, Int.mul_fdiv_cancel_left _ (by omega)]
  have f2 : ((p.den : Int) * q.den * r.den).fdiv q.den = p.den * r.den := by
    rw [Int.mul_comm (p.den : Int), Int.mul_assoc, Int.mul_fdiv_cancel_left _ (by omega)]
  have f3 : ((p.den : Int) * q.den * r.den).fdiv r.den = p.den * q.den := by
    rw [Int.mul_fdiv_cancel _ (by omega)]
  dsimp only
  refine seq_to (S (some (.d (.int ((p.den : Int) * q.den * r.den)))) (some (.d (.lst [.int (mkX p q r), .int (mkY p q r), .int (mkZ p q r)]))) none) (fun K hK => ?_) ?_
  · refine ⟨lineN rfl, trivial, den_pos p, ?_⟩
    show MulOk p.num (((p.den : Int) * q.den * r.den).fdiv p.den) ∧ _
    refine ⟨by rw [f1]; exact mulok (by rw [Int.natAbs_mul, Int.natAbs_natCast, Int.natAbs_natCast]; exact zm (by omega)), slt rfl, trivial, den_pos q, ?_⟩
    refine ⟨by show MulOk q.num (((p.den : Int) * q.den * r.den).fdiv q.den); rw [f2]; exact mulok (by rw [Int.natAbs_mul, Int.natAbs_natCast, Int.natAbs_natCast]; exact zm (by omega)), slt rfl, trivial, den_pos r, ?_⟩
    refine ⟨by show MulOk r.num (((p.den : Int) * q.den * r.den).fdiv r.den); rw [f3]; exact mulok (by rw [Int.natAbs_mul, Int.natAbs_natCast, Int.natAbs_natCast]; exact zm (by omega)), slt rfl, trivial, ?_⟩
    have e1 : mkX p q r = p.num * (((p.den : Int) * q.den * r.den).fdiv p.den) := by rw [f1]; rfl
    have e2 : mkY p q r = q.num * (((p.den : Int) * q.den * r.den).fdiv q.den) := by rw [f2]; rfl
    have e3 : mkZ p q r = r.num * (((p.den : Int) * q.den * r.den).fdiv r.den) := by rw [f3]; rfl
    rw [e1, e2, e3] at hK
    exact hK
  have g0 := mkG_pos (r := r) h0
  refine gcd_ok ?_
  refine gcd_ok ?_
  show mkG p q r ≠ 0 ∧ mkG p q r ≠ 0 ∧ mkG p q r ≠ 0 ∧ _
  refine ⟨by omega, by omega, by omega, lineN rfl, tk ?_⟩
  show Q (.d (.tup [.int ((mkX p q r).fdiv (mkG p q r)), .int ((mkY p q r).fdiv (mkG p q r)), .int ((mkZ p q r).fdiv (mkG p q r))])) st
  rw [fdiv_pos g0, fdiv_pos g0, fdiv_pos g0]
  exact h
end
end PG

set_option maxRecDepth 100000
set_option maxHeartbeats 4000000
namespace PG
open PySem PySem.Spec PyProof.Rows L2 RT
abbrev Ed := Nat × Bool
def edD (e : Ed) : Dt := .tup [.int e.1, .str (if e.2 = true then ("upper" : Str) else ("lower" : Str))]
def ehD (x : Ed × Hp3) : Dt := .tup [edD x.1, hpD x.2]
def lowE (k : Nat) (lo : Option Rat) (m : Mp) : List (Ed × Hp3) := match lo with
  | none => []
  | some l => [((k, false), mkH (-m.a) (-m.b) (m.e - l))]
def uppE (k : Nat) (hi : Option Rat) (m : Mp) : List (Ed × Hp3) := match hi with
  | none => []
  | some u => [((k, true), mkH m.a m.b (u - m.e))]
section
variable {st : List Cell} {Q : Vl → List Cell → Prop}
theorem edges_ok {k : Nat} {lo hi : Option Rat} {m : Mp} {n : Nat} (h0 : ¬ (m.a = 0 ∧ m.b = 0)) (hm : MZ n m) (hl : Zo n lo) (hh : Zo n hi) (hn : n ≤ 300000) (h : Q (.d (.lst ((lowE k lo m ++ uppE k hi m).map ehD))) st) :
    sp_edges_of [.d (.int k), .d (elD (.stop lo hi)), .d (mpD m)] st Q := by
  obtain ⟨⟨za, zb', zc⟩, zd, ze, zf⟩ := hm
  unfold sp_edges_of
  refine ⟨rfl, ?_⟩
  let S : List Cell → M := fun c => ⟨[some (.d (.int k)), some (.d (elD (.stop lo hi))), some (.d (mpD m)), some (.d (fr m.a)), some (.d (fr m.b)), some (.d (fr m.c)), some (.d (fr m.d)), some (.d (fr m.e)), some (.d (fr m.f)), some (.c st.length)], c⟩
  refine seq_to ⟨[some (.d (.int k)), some (.d (elD (.stop lo hi))), some (.d (mpD m)), some (.d (fr m.a)), some (.d (fr m.b)), some (.d (fr m.c)), some (.d (fr m.d)), some (.d (fr m.e)), some (.d (fr m.f)), none], st⟩ (fun K hK => ⟨rfl, hK⟩) ?_
  refine seq_to (S (st ++ [Cell.lst []])) (fun K hK => ⟨lineN rfl, hK⟩) ?_
  refine seq_to (S (st ++ [Cell.lst ((lowE k lo m).map ehD)])) (fun K hK => ?_) ?_
  · cases lo with
    | none => exact hK
    | some l =>
      have w := zb_sub m.e l
      have hl' := hl l rfl
      refine ifs_t (S (st ++ [Cell.lst []])) (fun K2 h2 => h2) ?_
      refine ⟨⟨_, getElem_last _ _⟩, lineN rfl, ?_⟩
      refine negative_ok ?_
      refine negative_ok ?_
      refine subtract_ok (x := m.e) (y := l) (zm (by omega)) ?_
      refine mkplane_ok (n := 2 * n) (fun z => h0 ⟨by grind, by grind⟩) (by rw [zb_neg]; omega) (by rw [zb_neg]; omega) (by omega) (by omega) ?_
      refine ⟨lineN rfl, onC_mk (getElem_last _ _) ⟨slt rfl, ?_⟩⟩
      dsimp only
      rw [set_last]
      exact hK
  refine seq_to (S (st ++ [Cell.lst ((lowE k lo m ++ uppE k hi m).map ehD)])) (fun K hK => ?_) ?_
  · cases hi with
    | none =>
      rw [show lowE k lo m ++ uppE k none m = lowE k lo m from List.append_nil _] at hK
      exact hK
    | some l =>
      have w := zb_sub l m.e
      have hl' := hh l rfl
      refine ifs_t (S (st ++ [Cell.lst ((lowE k lo m).map ehD)])) (fun K2 h2 => h2) ?_
      refine ⟨⟨_, getElem_last _ _⟩, lineN rfl, ?_⟩
      refine subtract_ok (x := l) (y := m.e) (zm (by omega)) ?_
      refine mkplane_ok (n := 2 * n) h0 (by omega) (by omega) (by omega) (by omega) ?_
      refine ⟨lineN rfl, onC_mk (getElem_last _ _) ⟨by cases lo <;> exact slt rfl, ?_⟩⟩
      dsimp only
      rw [set_last]
      rw [List.map_append] at hK
      exact hK
  refine Eq.mp (if_neg (Nat.lt_irrefl _)).symm (onC_mk (getElem_last _ _) ?_)
  show Q _ ((st ++ [_]).take st.length)
  rw [List.take_left]
  exact h
def edgesAt (k : Nat) (e : El) (m : Mp) : List (Ed × Hp3) := match e with
  | .stop lo hi => lowE k lo m ++ uppE k hi m
  | _ => []
def planesOf : Nat → Mp → List El → List (Ed × Hp3)
  | _, _, [] => []
  | k, m, e :: es => edgesAt k e m ++ planesOf (k + 1) (comp m (elM e)) es
theorem edgesAt_len (k : Nat) (e : El) (m : Mp) : (edgesAt k e m).length ≤ 2 := by
  cases e with
  | stop lo hi =>
    show (lowE k lo m ++ uppE k hi m).length ≤ 2
    rw [List.length_append]
    cases lo <;> cases hi <;> exact Nat.le_of_ble_eq_true rfl
  | _ => exact Nat.zero_le _
theorem nz_of_det {m : Mp} (h : det m = 1) : ¬ (m.a = 0 ∧ m.b = 0) := fun ⟨h1, h2⟩ => by
  unfold det at h
  rw [h1, h2] at h
  grind
/-- the half-planes of a train -/
theorem hplanes_ok {es : List El} (he : ∀ e ∈ es, ElIn e) (hl : es.length ≤ 1000) (h : Q (.d (.lst ((planesOf 0 idM es).map ehD))) st) : sp_half_planes_of [.d (.lst (es.map elD))] st Q := by
  obtain ⟨res, hres⟩ : ∃ res, planesOf 0 idM es = res := ⟨_, rfl⟩
  rw [hres] at h
  unfold sp_half_planes_of
  refine ⟨rfl, lineN rfl, ?_⟩
  let S : List (Ed × Hp3) → Mp → Option Vl → Option Vl → M := fun acc m z3 z4 => ⟨[some (.d (.lst (es.map elD))), some (.d (.lst (acc.map ehD))), some (.d (mpD m)), z3, z4], st⟩
  refine enum_inv (fun k rest m => ∃ done acc z3 z4, es = done ++ rest ∧ k = done.length ∧ acc ++ planesOf done.length (transfer done) rest = res ∧ acc.length ≤ 2 * done.length ∧ m = S acc (transfer done) z3 z4) ?_ ?_ _ 0 _ ⟨[], [], none, none, rfl, rfl, hres, Nat.le_refl _, rfl⟩
  · rintro k e rest m K hK ⟨done, acc, z3, z4, e1, rfl, e3, hacc, rfl⟩
    have hj : done.length < es.length := by
      rw [e1, List.length_append, List.length_cons]
      omega
    have hm : e ∈ es := by
      rw [e1]
      exact List.mem_append_right _ List.mem_cons_self
    have hd : ∀ x ∈ done, ElIn x := fun x hx => he x (by rw [e1]; exact List.mem_append_left _ hx)
    have hz : MZ (9 + 10 * done.length) (transfer done) := (mrb_transfer hd).z
    have hz2 : MZ 20000 (transfer done) := hz.le (by omega)
    have dt : det (transfer done) = 1 := det_transfer fun x hx => (hd x hx).ok
    have el := edgesAt_len done.length e (transfer done)
    refine seq_to (S (acc ++ edgesAt done.length e (transfer done)) (transfer done) (some (.d (.int done.length))) (some (.d (elD e)))) (fun K2 hK2 => ?_) ?_
    · have same : ∀ s : Str, edgesAt done.length e (transfer done) = [] → decide (s = "stop") = false → shD (.str s) → K2 (S acc (transfer done) (some (.d (.int done.length))) (some (.d (elD e)))) → if eqD (.str s) (.str ("stop" : Str)) = true then False else K2 (S acc (transfer done) (some (.d (.int done.length))) (some (.d (elD e)))) := fun s h1 h2 h3 h4 => str_ne h2 h4
      cases e with
      | gap g =>
        rw [show edgesAt done.length (.gap g) (transfer done) = [] from rfl, List.append_nil] at hK2
        exact ⟨s_gap, s_stop, str_ne ne_gs hK2⟩
      | lens g c =>
        rw [show edgesAt done.length (.lens g c) (transfer done) = [] from rfl, List.append_nil] at hK2
        exact ⟨s_lens, s_stop, str_ne ne_ls hK2⟩
      | prism g =>
        rw [show edgesAt done.length (.prism g) (transfer done) = [] from rfl, List.append_nil] at hK2
        exact ⟨s_prism, s_stop, str_ne ne_ps hK2⟩
      | afocal g =>
        rw [show edgesAt done.length (.afocal g) (transfer done) = [] from rfl, List.append_nil] at hK2
        exact ⟨s_afocal, s_stop, str_ne ne_as hK2⟩
      | stop lo hi =>
        refine ⟨s_stop, s_stop, str_eq ?_⟩
        have zz := (he _ hm).zo
        refine edges_ok (n := 20000) (nz_of_det dt) hz2 (fun q hq => Nat.le_trans (zz.1 q hq) (by decide)) (fun q hq => Nat.le_trans (zz.2 q hq) (by decide)) (by decide) ?_
        refine ⟨?_, ?_⟩
        · rw [List.length_map, List.length_map]
          refine Nat.le_of_lt (small_lt ?_)
          have el' : (lowE done.length lo (transfer done) ++ uppE done.length hi (transfer done)).length ≤ 2 := el
          omega
        rw [← List.map_append]
        exact hK2
    refine elmap_ok (el_z (he e hm) (n := 10) (by decide)) (by decide) ?_
    refine compose_ok (n := 100100) (hz2.le (by decide)) ((elM_z (he e hm)).le (by decide)) (by decide) ?_
    refine hK _ ⟨done ++ [e], acc ++ edgesAt done.length e (transfer done), some (.d (.int done.length)), some (.d (elD e)), ?_, ?_, ?_, ?_, ?_⟩
    · rw [e1, List.append_assoc]
      rfl
    · rw [List.length_append, List.length_singleton]
    · rw [← e3, List.length_append, List.length_singleton, transfer_append, transfer_one, List.append_assoc]
      rfl
    · rw [List.length_append, List.length_append, List.length_singleton]
      omega
    · rw [transfer_append, transfer_one]
      rfl
  · rintro k m ⟨done, acc, z3, z4, e1, rfl, e3, hacc, rfl⟩
    rw [show planesOf done.length (transfer done) [] = [] from rfl, List.append_nil] at e3
    rw [← e3] at h
    exact tk h
end
/-! what they mean -/
theorem mkH_has {p q r : Rat} (h : ¬ (p = 0 ∧ q = 0)) (x : Ray) : hasH x (mkH p q r) = decide (p * x.1 + q * x.2 ≤ r) := by
  obtain ⟨t, ht, h1, h2, h3⟩ := mkH_spec (r := r) h
  unfold hasH valH
  rw [h1, h2, h3]
  refine decide_eq_decide.mpr ?_
  have e : t * p * x.1 + t * q * x.2 = t * (p * x.1 + q * x.2) := by grind
  rw [e]
  generalize p * x.1 + q * x.2 = v
  constructor
  · intro h
    exact Rat.le_of_mul_le_mul_left h ht
  · intro h
    exact Rat.mul_le_mul_of_nonneg_left h (Rat.le_of_lt ht)
theorem lowE_has {k : Nat} {lo : Option Rat} {m : Mp} (h0 : ¬ (m.a = 0 ∧ m.b = 0)) (x : Ray) : ((lowE k lo m).map (·.2)).all (hasH x) = !blo lo (appM m x).1 := by
  cases lo with
  | none => rfl
  | some l =>
    show (hasH x (mkH (-m.a) (-m.b) (m.e - l)) && true) = !decide ((m.a * x.1 + m.b * x.2 + m.e) < l)
    rw [mkH_has (fun z => h0 ⟨by grind, by grind⟩), Bool.and_true, ← decide_not]
    refine decide_eq_decide.mpr ?_
    grind
theorem uppE_has {k : Nat} {hi : Option Rat} {m : Mp} (h0 : ¬ (m.a = 0 ∧ m.b = 0)) (x : Ray) : ((uppE k hi m).map (·.2)).all (hasH x) = !bhi hi (appM m x).1 := by
  cases hi with
  | none => rfl
  | some l =>
    show (hasH x (mkH m.a m.b (l - m.e)) && true) = !decide (l < (m.a * x.1 + m.b * x.2 + m.e))
    rw [mkH_has h0, Bool.and_true, ← decide_not]
    refine decide_eq_decide.mpr ?_
    grind
theorem edgesAt_has {k : Nat} {e : El} {m : Mp} (h0 : ¬ (m.a = 0 ∧ m.b = 0)) (x : Ray) : ((edgesAt k e m).map (·.2)).all (hasH x) = !blocks e (appM m x) := by
  cases e with
  | stop lo hi =>
    show ((lowE k lo m ++ uppE k hi m).map (·.2)).all (hasH x) = !(blo lo (appM m x).1 || bhi hi (appM m x).1)
    rw [List.map_append, List.all_append, lowE_has h0, uppE_has h0, Bool.not_or]
  | _ => rfl
theorem planes_has : ∀ (es : List El) (k : Nat) (m : Mp) (x : Ray) (pre : List Ray), (∀ e ∈ es, ElOk e) → det m = 1 → ((planesOf k m es).map (·.2)).all (hasH x) = (goes k es pre (appM m x)).2.isNone
  | [], k, m, x, pre, _, _ => rfl
  | e :: es, k, m, x, pre, h, hd => by
    show ((edgesAt k e m ++ planesOf (k + 1) (comp m (elM e)) es).map (·.2)).all (hasH x) = _
    rw [List.map_append, List.all_append, edgesAt_has (nz_of_det hd)]
    unfold goes
    by_cases c : blocks e (appM m x) = true
    · rw [if_pos c, c]
      rfl
    · rw [if_neg c]
      have c' : blocks e (appM m x) = false := by simpa using c
      rw [c', Bool.not_false, Bool.true_and, ← app_el, ← app_comp]
      exact planes_has es (k + 1) (comp m (elM e)) x _ (fun y hy => h y (List.mem_cons_of_mem _ hy)) (by rw [det_comp, hd, det_el (h e List.mem_cons_self), Rat.mul_one])
theorem planes_leaves {es : List El} (h : ∀ e ∈ es, ElOk e) (x : Ray) : ((planesOf 0 idM es).map (·.2)).all (hasH x) = (leaves es x).isSome := by
  rw [planes_has es 0 idM x [] h (by unfold det idM; grind), app_id]
  unfold leaves
  cases (goes 0 es [] x).2 <;> rfl
end PG

set_option maxRecDepth 100000
set_option maxHeartbeats 4000000
namespace PG
open PySem PySem.Spec PyProof.Rows L2 RT
/-- a comprehension that only reads -/
theorem lc_map {α : Type} (f h : α → Dt) {sl slw : List (Option Vl)} {g : Tgt} {te : DE} {all : List Dt} {K : List Dt → M → Prop} {st : List Cell} :
    ∀ {xs done : List α}, (∀ x ∈ xs, ∀ (C : Vl → M → Prop), (∀ sl', C (.d (h x)) ⟨sl', st⟩) → tgD g (.d (f x)) ⟨slw, st⟩ fun m1 => te m1 C) → done.length + xs.length ≤ 1000000 → K ((done ++ xs).map h) ⟨sl, st⟩ → dLcGo sl slw g dYes te all none K (xs.map f) (done.map h) st
  | [], done, _, _, hK => ⟨trivial, by rw [List.append_nil] at hK; exact hK⟩
  | x :: r, done, hs, hl, hK => ⟨trivial, hs x List.mem_cons_self _ fun sl' => by
    rw [List.length_cons] at hl
    refine ⟨by rw [List.length_map]; exact small_lt (by omega), ?_⟩
    have := lc_map f h (K := K) (all := all) (te := te) (g := g) (sl := sl) (slw := slw) (st := st) (xs := r) (done := done ++ [x]) (fun y hy => hs y (List.mem_cons_of_mem _ hy)) (by rw [List.length_append, List.length_singleton]; omega) (by rw [List.append_assoc]; exact hK)
    rw [List.map_append] at this
    exact this⟩
/-- .. over a list: the whole expression -/
theorem dlc_map {α : Type} (f h : α → Dt) {xs : List α} {m : M} {g : Tgt} {t te : DE} {vs : List Nat} {Q : Vl → M → Prop} (ht : ∀ K : Vl → M → Prop, K (.d (.lst (xs.map f))) m → t m K)
    (hs : ∀ x ∈ xs, ∀ (C : Vl → M → Prop), (∀ sl', C (.d (h x)) ⟨sl', m.st⟩) → tgD g (.d (f x)) ⟨wipeD m.sl vs, m.st⟩ fun m1 => te m1 C) (hl : xs.length ≤ 1000000) (hK : Q (.d (.lst (xs.map h))) m) : dLc false (dAny t) g dYes te vs m Q :=
  ht _ (lc_map f h (done := []) hs (by simpa using hl) hK)
/-- a list of one's own grows -/
theorem append_st {i k : Nat} {te : DE} {E : DEnds} {m : M} {xs : List Dt} (d : Dt) (hv : m.sl[i]? = some (some (.c k))) (hc : m.st[k]? = some (.lst xs)) (ht : ∀ C : Vl → M → Prop, C (.d d) m → te m C) (hl : xs.length < sizeLine)
    (h : E.nx ⟨m.sl, m.st.set k (.lst (xs ++ [d]))⟩) : dDo (dMeth mAppend (dVar i) (dCons te dNil)) E m := by
  unfold dDo dMeth dVar
  rw [hv]
  refine ⟨⟨_, hc⟩, ht _ ?_⟩
  show onC m.st k _
  exact onC_mk hc ⟨hl, h⟩
theorem cut_take (xs : List Dt) (j : Nat) (hj : j ≤ xs.length) : RT.cutD xs none (some (j : Int)) = xs.take j := by
  unfold RT.cutD
  rw [HT.sIx_none, HT.sIx_nat, Nat.min_eq_left hj, List.drop_zero, Nat.sub_zero]
theorem cut_drop (xs : List Dt) (j : Nat) (hj : j ≤ xs.length) : RT.cutD xs (some (j : Int)) none = xs.drop j := by
  unfold RT.cutD
  rw [HT.sIx_none, HT.sIx_nat, Nat.min_eq_left hj, List.take_of_length_le (by rw [List.length_drop]; exact Nat.le_refl _)]
end PG

set_option maxRecDepth 100000
set_option maxHeartbeats 4000000
namespace PG
open PySem PySem.Spec PyProof.Rows L2 RT
/-! regions, in plain mathematics -/
def Rg (hs : List Hp3) (x : Ray) : Prop := ∀ g ∈ hs, valH g x ≤ (g.r : Rat)
def Dir (g : Hp3) : Prop := ¬ (g.p = 0 ∧ g.q = 0)
def dt (g k : Hp3) : Int := g.p * k.q - g.q * k.p
def dotI (g k : Hp3) : Int := g.p * k.p + g.q * k.q
def lin2 (p q : Rat) (x : Ray) : Rat := p * x.1 + q * x.2
theorem exists_max {α : Type} (P : α → Prop) [DecidablePred P] (f : α → Rat) : ∀ l : List α, (∀ x ∈ l, ¬ P x) ∨ ∃ m ∈ l, P m ∧ ∀ x ∈ l, P x → f x ≤ f m
  | [] => .inl fun _ h => nomatch h
  | a :: l => by
    rcases exists_max P f l with h | ⟨m, hm, pm, h⟩
    · by_cases pa : P a
      · refine .inr ⟨a, List.mem_cons_self, pa, fun x hx px => ?_⟩
        rcases List.mem_cons.mp hx with e | e
        · rw [e]; exact Rat.le_refl
        · exact (h x e px).elim
      · refine .inl fun x hx px => ?_
        rcases List.mem_cons.mp hx with e | e
        · rw [e] at px; exact pa px
        · exact h x e px
    · by_cases pa : P a ∧ f m ≤ f a
      · refine .inr ⟨a, List.mem_cons_self, pa.1, fun x hx px => ?_⟩
        rcases List.mem_cons.mp hx with e | e
        · rw [e]; exact Rat.le_refl
        · exact Rat.le_trans (h x e px) pa.2
      · refine .inr ⟨m, List.mem_cons_of_mem _ hm, pm, fun x hx px => ?_⟩
        rcases List.mem_cons.mp hx with e | e
        · rw [e] at px ⊢
          rcases Rat.le_total (a := f m) (b := f a) with z | z
          · exact (pa ⟨px, z⟩).elim
          · exact z
        · exact h x e px
theorem exists_min {α : Type} (P : α → Prop) [DecidablePred P] (f : α → Rat) (l : List α) : (∀ x ∈ l, ¬ P x) ∨ ∃ m ∈ l, P m ∧ ∀ x ∈ l, P x → f m ≤ f x := by
  rcases exists_max P (fun x => - f x) l with h | ⟨m, hm, pm, h⟩
  · exact .inl h
  · exact .inr ⟨m, hm, pm, fun x hx px => by have := h x hx px; grind⟩
/-- one variable is eliminated -/
theorem elim1 (l : List (Rat × Rat)) (h0 : ∀ c ∈ l, c.1 = 0 → 0 ≤ c.2) (h2 : ∀ c ∈ l, ∀ d ∈ l, 0 < c.1 → d.1 < 0 → 0 ≤ c.2 * (-d.1) + d.2 * c.1) : ∃ v : Rat, ∀ c ∈ l, c.1 * v ≤ c.2 := by
  rcases exists_max (fun c : Rat × Rat => c.1 < 0) (fun c => c.2 / c.1) l with hn | ⟨m, hm, pm, hmax⟩
  · rcases exists_min (fun c : Rat × Rat => 0 < c.1) (fun c => c.2 / c.1) l with hp | ⟨k, hk, pk, hmin⟩
    · refine ⟨0, fun c hc => ?_⟩
      have e : c.1 = 0 := by
        have a := hn c hc
        have b := hp c hc
        grind
      rw [e]
      have := h0 c hc e
      grind
    · refine ⟨k.2 / k.1, fun c hc => ?_⟩
      by_cases e : c.1 = 0
      · rw [e]
        have := h0 c hc e
        grind
      · have p : 0 < c.1 := by
          have a := hn c hc
          grind
        have := hmin c hc p
        have q : c.1 * (k.2 / k.1) ≤ c.1 * (c.2 / c.1) := Rat.mul_le_mul_of_nonneg_left this (Rat.le_of_lt p)
        have : c.1 * (c.2 / c.1) = c.2 := by grind
        grind
  · refine ⟨m.2 / m.1, fun c hc => ?_⟩
    by_cases e : c.1 = 0
    · rw [e]
      have := h0 c hc e
      grind
    · by_cases p : 0 < c.1
      · have w := h2 c hc m hm p pm
        have e1 : m.2 = m.1 * (m.2 / m.1) := by grind
        generalize m.2 / m.1 = v at *
        rw [e1] at w
        -- 0 ≤ (-m.1) * (c.2 - c.1 * v)
        have w2 : 0 ≤ (-m.1) * (c.2 - c.1 * v) := by grind
        have w3 : (-m.1) * 0 ≤ (-m.1) * (c.2 - c.1 * v) := by grind
        have := Rat.le_of_mul_le_mul_left w3 (by grind)
        grind
      · have n : c.1 < 0 := by grind
        have w := hmax c hc n
        have q : (-c.1) * (c.2 / c.1) ≤ (-c.1) * (m.2 / m.1) := Rat.mul_le_mul_of_nonneg_left w (by grind)
        have : c.1 * (c.2 / c.1) = c.2 := by grind
        grind
/-! bounds -/
def sglB (p q : Rat) (g : Hp3) : Option Rat := if (g.p : Rat) * q - (g.q : Rat) * p = 0 ∧ 0 < (g.p : Rat) * p + (g.q : Rat) * q then some (((g.p : Rat) * p + (g.q : Rat) * q) / (dotI g g : Rat) * (g.r : Rat)) else none
def prW (p q : Rat) (g k : Hp3) : Option (Rat × Rat) := if dt g k = 0 then none else
  if (p * (k.q : Rat) - q * (k.p : Rat)) / (dt g k : Rat) ≤ 0 ∨ (q * (g.p : Rat) - p * (g.q : Rat)) / (dt g k : Rat) ≤ 0 then none
  else some ((p * (k.q : Rat) - q * (k.p : Rat)) / (dt g k : Rat), (q * (g.p : Rat) - p * (g.q : Rat)) / (dt g k : Rat))
def prB (p q : Rat) (g k : Hp3) : Option Rat := (prW p q g k).map fun w => w.1 * (g.r : Rat) + w.2 * (k.r : Rat)
def prs (p q : Rat) : List Hp3 → List (Option Rat)
  | [] => []
  | g :: r => r.map (prB p q g) ++ prs p q r
def bounds (p q : Rat) (hs : List Hp3) : List (Option Rat) := hs.map (sglB p q) ++ prs p q hs
theorem prs_mem {p q : Rat} {g k : Hp3} (hne : g ≠ k) : ∀ {hs : List Hp3}, g ∈ hs → k ∈ hs → prB p q g k ∈ prs p q hs ∨ prB p q k g ∈ prs p q hs
  | a :: r, hg, hk => by
    rcases List.mem_cons.mp hg with eg | hg <;> rcases List.mem_cons.mp hk with ek | hk
    · exact (hne (eg.trans ek.symm)).elim
    · exact .inl (List.mem_append_left _ (List.mem_map.mpr ⟨k, hk, by rw [eg]⟩))
    · exact .inr (List.mem_append_left _ (List.mem_map.mpr ⟨g, hg, by rw [ek]⟩))
    · rcases prs_mem hne hg hk with h | h
      · exact .inl (List.mem_append_right _ h)
      · exact .inr (List.mem_append_right _ h)
theorem mem_prs {p q : Rat} {o : Option Rat} : ∀ {hs : List Hp3}, o ∈ prs p q hs → ∃ g ∈ hs, ∃ k ∈ hs, o = prB p q g k
  | a :: r, h => by
    rcases List.mem_append.mp (show o ∈ r.map (prB p q a) ++ prs p q r from h) with h | h
    · obtain ⟨k, hk, rfl⟩ := List.mem_map.mp h
      exact ⟨a, List.mem_cons_self, k, List.mem_cons_of_mem _ hk, rfl⟩
    · obtain ⟨g, hg, k, hk, e⟩ := mem_prs h
      exact ⟨g, List.mem_cons_of_mem _ hg, k, List.mem_cons_of_mem _ hk, e⟩
theorem mem_prs2 {p q : Rat} {o : Option Rat} : ∀ {hs : List Hp3}, o ∈ prs p q hs → ∃ i j : Nat, i < j ∧ ∃ g k, hs[i]? = some g ∧ hs[j]? = some k ∧ o = prB p q g k
  | a :: r, h => by
    rcases List.mem_append.mp (show o ∈ r.map (prB p q a) ++ prs p q r from h) with h | h
    · obtain ⟨k, hk, rfl⟩ := List.mem_map.mp h
      obtain ⟨j, hj⟩ := List.getElem?_of_mem hk
      exact ⟨0, j + 1, by omega, a, k, rfl, hj, rfl⟩
    · obtain ⟨i, j, hij, g, k, e1, e2, e⟩ := mem_prs2 h
      exact ⟨i + 1, j + 1, by omega, g, k, e1, e2, e⟩
theorem castI {a b : Int} : ((a * b : Int) : Rat) = (a : Rat) * (b : Rat) := Rat.intCast_mul ..
theorem dt_cast (g k : Hp3) : (dt g k : Rat) = (g.p : Rat) * (k.q : Rat) - (g.q : Rat) * (k.p : Rat) := by
  unfold dt
  rw [Rat.intCast_sub, castI, castI]
theorem dot_cast (g k : Hp3) : (dotI g k : Rat) = (g.p : Rat) * (k.p : Rat) + (g.q : Rat) * (k.q : Rat) := by
  unfold dotI
  rw [Rat.intCast_add, castI, castI]
theorem sq_pos {a : Rat} (h : a ≠ 0) : 0 < a * a := by
  rcases Rat.le_total (a := 0) (b := a) with z | z
  · have : 0 < a := by grind
    exact Rat.mul_pos this this
  · have : 0 < -a := by grind
    have := Rat.mul_pos this this
    grind
theorem sq_nn (a : Rat) : 0 ≤ a * a := by
  by_cases h : a = 0
  · rw [h]; grind
  · exact Rat.le_of_lt (sq_pos h)
theorem n2_pos {p q : Rat} (h : ¬ (p = 0 ∧ q = 0)) : 0 < p * p + q * q := by
  have a := sq_nn p
  have b := sq_nn q
  by_cases hp : p = 0
  · have hq : q ≠ 0 := fun e => h ⟨hp, e⟩
    have := sq_pos hq
    grind
  · have := sq_pos hp
    grind
theorem Dir.rat {g : Hp3} (h : Dir g) : ¬ ((g.p : Rat) = 0 ∧ (g.q : Rat) = 0) := fun ⟨a, b⟩ => h ⟨Rat.intCast_eq_zero_iff.mp a, Rat.intCast_eq_zero_iff.mp b⟩
theorem Dir.pos {g : Hp3} (h : Dir g) : (0 : Rat) < (dotI g g : Rat) := by
  rw [dot_cast]
  exact n2_pos h.rat
theorem mul_le {a b c : Rat} (h : b ≤ c) (ha : 0 ≤ a) : a * b ≤ a * c := Rat.mul_le_mul_of_nonneg_left h ha
theorem of_mul_le {a b c : Rat} (h : a * b ≤ a * c) (ha : 0 < a) : b ≤ c := Rat.le_of_mul_le_mul_left h ha
end PG

set_option maxRecDepth 100000
set_option maxHeartbeats 4000000
namespace PG
open PySem PySem.Spec PyProof.Rows L2 RT
/-- the weights that two directions give a third one are positive, and they do give it -/
theorem prW_some {p q : Rat} {g k : Hp3} {w : Rat × Rat} (h : prW p q g k = some w) : dt g k ≠ 0 ∧ 0 < w.1 ∧ 0 < w.2 ∧ w.1 * (g.p : Rat) + w.2 * (k.p : Rat) = p ∧ w.1 * (g.q : Rat) + w.2 * (k.q : Rat) = q := by
  unfold prW at h
  by_cases h0 : dt g k = 0
  · rw [if_pos h0] at h
    cases h
  · rw [if_neg h0] at h
    split at h
    · cases h
    · rename_i hn
      cases h
      have hd : (dt g k : Rat) ≠ 0 := fun e => h0 (Rat.intCast_eq_zero_iff.mp e)
      have e := dt_cast g k
      generalize (dt g k : Rat) = d at *
      refine ⟨h0, by grind, by grind, ?_, ?_⟩
      · show (p * (k.q : Rat) - q * (k.p : Rat)) / d * (g.p : Rat) + (q * (g.p : Rat) - p * (g.q : Rat)) / d * (k.p : Rat) = p
        grind
      · show (p * (k.q : Rat) - q * (k.p : Rat)) / d * (g.q : Rat) + (q * (g.p : Rat) - p * (g.q : Rat)) / d * (k.q : Rat) = q
        grind
/-- every bound bounds -/
theorem bound_ok {p q : Rat} {hs : List Hp3} (hd : ∀ g ∈ hs, Dir g) {x : Ray} (hx : Rg hs x) {b : Rat} (hb : some b ∈ bounds p q hs) : lin2 p q x ≤ b := by
  rcases List.mem_append.mp hb with h | h
  · obtain ⟨g, hg, e⟩ := List.mem_map.mp h
    unfold sglB at e
    split at e
    · rename_i hc
      cases e
      have hp := (hd g hg).pos
      have e := dot_cast g g
      have hx' := hx g hg
      unfold valH at hx'
      unfold lin2
      generalize (dotI g g : Rat) = d at *
      generalize (g.p : Rat) = gp at *
      generalize (g.q : Rat) = gq at *
      generalize (g.r : Rat) = gr at *
      -- p = t gp, q = t gq with t = along / d
      have t0 : 0 < (gp * p + gq * q) / d := by
        rw [Rat.div_def]
        exact Rat.mul_pos hc.2 (Rat.inv_pos.mpr hp)
      have e1 : (gp * p + gq * q) / d * gp = p := by grind
      have e2 : (gp * p + gq * q) / d * gq = q := by grind
      generalize (gp * p + gq * q) / d = t at *
      have := mul_le hx' (Rat.le_of_lt t0)
      have e3 : p * x.1 + q * x.2 = t * (gp * x.1 + gq * x.2) := by
        rw [← e1, ← e2]
        grind
      rw [e3]
      exact this
    · cases e
  · obtain ⟨g, hg, k, hk, e⟩ := mem_prs h
    unfold prB at e
    cases hw : prW p q g k with
    | none =>
      rw [hw] at e
      cases e
    | some w =>
      rw [hw] at e
      obtain ⟨_, w1, w2, e1, e2⟩ := prW_some hw
      have e' : b = w.1 * (g.r : Rat) + w.2 * (k.r : Rat) := Option.some.inj e
      rw [e']
      have a1 := mul_le (hx g hg) (Rat.le_of_lt w1)
      have a2 := mul_le (hx k hk) (Rat.le_of_lt w2)
      unfold valH at a1 a2
      unfold lin2
      rw [← e1, ← e2]
      grind
/-- .. and every value up to the bounds is reached -/
theorem reach {p q : Rat} (hpq : ¬ (p = 0 ∧ q = 0)) {hs : List Hp3} (hd : ∀ g ∈ hs, Dir g) {x0 : Ray} (hx : Rg hs x0) {m : Rat} (h1 : lin2 p q x0 ≤ m) (h2 : ∀ b, some b ∈ bounds p q hs → m ≤ b) : ∃ x, Rg hs x ∧ lin2 p q x = m := by
  have hn := n2_pos hpq
  obtain ⟨n2, en⟩ : ∃ n2, p * p + q * q = n2 := ⟨_, rfl⟩
  rw [en] at hn
  -- what a half-plane asks of the second coordinate
  have key : ∃ v : Rat, ∀ c ∈ hs.map (fun g : Hp3 => (((g.q : Rat) * p - (g.p : Rat) * q, (g.r : Rat) * n2 - ((g.p : Rat) * p + (g.q : Rat) * q) * m) : Rat × Rat)), c.1 * v ≤ c.2 := by
    refine elim1 _ (fun c hc e => ?_) fun c hc d hd' pc nd => ?_
    · obtain ⟨g, hg, rfl⟩ := List.mem_map.mp hc
      dsimp only at e ⊢
      have hxg := hx g hg
      have hdg := (hd g hg).rat
      have hpos := (hd g hg).pos
      have hb : 0 < (g.p : Rat) * p + (g.q : Rat) * q → m ≤ ((g.p : Rat) * p + (g.q : Rat) * q) / (dotI g g : Rat) * (g.r : Rat) := fun ha => by
        refine h2 _ (List.mem_append_left _ (List.mem_map.mpr ⟨g, hg, ?_⟩))
        unfold sglB
        rw [if_pos ⟨by grind, ha⟩]
      have ed := dot_cast g g
      unfold valH at hxg
      unfold lin2 at h1
      generalize (dotI g g : Rat) = d at *
      generalize (g.p : Rat) = gp at *
      generalize (g.q : Rat) = gq at *
      generalize (g.r : Rat) = gr at *
      obtain ⟨A, eA⟩ : ∃ A, gp * p + gq * q = A := ⟨_, rfl⟩
      rw [eA] at hb ⊢
      have id : A * A = d * n2 := by grind
      have nA : A ≠ 0 := fun z => by
        have := Rat.mul_pos hpos hn
        rw [← id, z] at this
        grind
      by_cases pA : 0 < A
      · have := mul_le (hb pA) (Rat.le_of_lt pA)
        have e3 : A * (A / d * gr) = gr * n2 := by
          have : A * (A / d * gr) = (A * A) / d * gr := by grind
          rw [this, id]
          grind
        rw [e3] at this
        grind
      · have nA' : 0 ≤ -A := by grind
        have a1 := mul_le h1 nA'
        -- A u0 = n2 (g x0) as the other coordinate vanishes
        have e4 : A * (p * x0.1 + q * x0.2) = n2 * (gp * x0.1 + gq * x0.2) := by grind
        have a2 := mul_le hxg (Rat.le_of_lt hn)
        grind
    · obtain ⟨g, hg, rfl⟩ := List.mem_map.mp hc
      obtain ⟨k, hk, rfl⟩ := List.mem_map.mp hd'
      dsimp only at pc nd ⊢
      have hxg := hx g hg
      have hxk := hx k hk
      have hne : g ≠ k := fun e => by
        rw [e] at pc
        grind
      have hb : 0 < (dt k g : Rat) → m ≤ (((k.q : Rat) * p - (k.p : Rat) * q) * (g.r : Rat) - ((g.q : Rat) * p - (g.p : Rat) * q) * (k.r : Rat)) / (dt g k : Rat) := fun hdt => by
        have e1 := dt_cast g k
        have e2 := dt_cast k g
        have hgk : (dt g k : Rat) < 0 := by grind
        have ngk : dt g k ≠ 0 := fun z => by rw [z] at hgk; exact absurd hgk (by decide)
        have nkg : dt k g ≠ 0 := fun z => by rw [z] at hdt; exact absurd hdt (by decide)
        have ekg : (dt k g : Rat) = - (dt g k : Rat) := by grind
        rcases prs_mem (p := p) (q := q) hne hg hk with h | h
        · refine h2 _ (List.mem_append_right _ ?_)
          have : prB p q g k = some ((((k.q : Rat) * p - (k.p : Rat) * q) * (g.r : Rat) - ((g.q : Rat) * p - (g.p : Rat) * q) * (k.r : Rat)) / (dt g k : Rat)) := by
            unfold prB prW
            generalize (dt g k : Rat) = d at *
            have w1 : 0 < (p * (k.q : Rat) - q * (k.p : Rat)) / d := by
              have : (p * (k.q : Rat) - q * (k.p : Rat)) / d = (-(p * (k.q : Rat) - q * (k.p : Rat))) / (-d) := by grind
              rw [this, Rat.div_def]
              exact Rat.mul_pos (by grind) (Rat.inv_pos.mpr (by grind))
            have w2 : 0 < (q * (g.p : Rat) - p * (g.q : Rat)) / d := by
              have : (q * (g.p : Rat) - p * (g.q : Rat)) / d = (-(q * (g.p : Rat) - p * (g.q : Rat))) / (-d) := by grind
              rw [this, Rat.div_def]
              exact Rat.mul_pos (by grind) (Rat.inv_pos.mpr (by grind))
            rw [if_neg ngk, if_neg (by grind)]
            show some _ = some _
            congr 1
            grind
          rw [← this]
          exact h
        · refine h2 _ (List.mem_append_right _ ?_)
          have : prB p q k g = some ((((k.q : Rat) * p - (k.p : Rat) * q) * (g.r : Rat) - ((g.q : Rat) * p - (g.p : Rat) * q) * (k.r : Rat)) / (dt g k : Rat)) := by
            unfold prB prW
            rw [ekg] at hdt ⊢
            generalize (dt g k : Rat) = d at *
            have w1 : 0 < (p * (g.q : Rat) - q * (g.p : Rat)) / (-d) := by
              rw [Rat.div_def]
              exact Rat.mul_pos (by grind) (Rat.inv_pos.mpr (by grind))
            have w2 : 0 < (q * (k.p : Rat) - p * (k.q : Rat)) / (-d) := by
              rw [Rat.div_def]
              exact Rat.mul_pos (by grind) (Rat.inv_pos.mpr (by grind))
            rw [if_neg nkg, if_neg (by grind)]
            show some _ = some _
            congr 1
            grind
          rw [← this]
          exact h
      have e1 := dt_cast g k
      have e2 := dt_cast k g
      unfold valH at hxg hxk
      unfold lin2 at h1
      generalize (dt g k : Rat) = d at *
      generalize (dt k g : Rat) = d' at *
      generalize (g.p : Rat) = gp at *
      generalize (g.q : Rat) = gq at *
      generalize (g.r : Rat) = gr at *
      generalize (k.p : Rat) = kp at *
      generalize (k.q : Rat) = kq at *
      generalize (k.r : Rat) = kr at *
      obtain ⟨B, eB⟩ : ∃ B, gq * p - gp * q = B := ⟨_, rfl⟩
      obtain ⟨C, eC⟩ : ∃ C, kq * p - kp * q = C := ⟨_, rfl⟩
      rw [eB] at pc hb
      rw [eC] at nd hb
      have idW : (gp * p + gq * q) * (-C) + (kp * p + kq * q) * B = n2 * d' := by grind
      have goal2 : m * (n2 * d') ≤ n2 * (gr * (-C) + kr * B) := by
        by_cases hdt : 0 < d'
        · have w := mul_le (hb hdt) (Rat.le_of_lt (Rat.mul_pos hn hdt))
          have e3 : n2 * d' * ((C * gr - B * kr) / d) = n2 * (gr * (-C) + kr * B) := by
            have : d' = -d := by grind
            rw [this]
            have : d ≠ 0 := by grind
            grind
          rw [e3] at w
          grind
        · have nn : 0 ≤ -(n2 * d') := by
            have := mul_le (show (0 : Rat) ≤ -d' by grind) (Rat.le_of_lt hn)
            grind
          have w := mul_le h1 nn
          have a1 := mul_le hxg (show 0 ≤ n2 * (-C) by
            have := mul_le (show (0 : Rat) ≤ -C by grind) (Rat.le_of_lt hn)
            grind)
          have a2 := mul_le hxk (show 0 ≤ n2 * B by
            have := mul_le (show (0 : Rat) ≤ B by grind) (Rat.le_of_lt hn)
            grind)
          have e5 : n2 * d' * (p * x0.1 + q * x0.2) = n2 * (-C) * (gp * x0.1 + gq * x0.2) + n2 * B * (kp * x0.1 + kq * x0.2) := by grind
          have w' : n2 * d' * m ≤ n2 * d' * (p * x0.1 + q * x0.2) := by
            clear e5 a1 a2 idW hb
            generalize p * x0.1 + q * x0.2 = U at *
            generalize n2 * d' = V at *
            grind
          rw [e5] at w'
          clear e5 w nn idW hb eB eC e1 e2
          generalize gp * x0.1 + gq * x0.2 = U at *
          generalize kp * x0.1 + kq * x0.2 = V at *
          grind
      have fin : (gr * n2 - (gp * p + gq * q) * m) * (-C) + (kr * n2 - (kp * p + kq * q) * m) * B = n2 * (gr * (-C) + kr * B) - m * (n2 * d') := by
        rw [← idW]
        clear idW goal2 hb e1 e2 eB eC
        grind
      rw [eB, eC, fin]
      clear fin idW hb
      grind
  obtain ⟨v, hv⟩ := key
  refine ⟨((p * m - q * v) / n2, (q * m + p * v) / n2), fun g hg => ?_, ?_⟩
  · have := hv _ (List.mem_map.mpr ⟨g, hg, rfl⟩)
    dsimp only at this
    unfold valH
    generalize (g.p : Rat) = gp at *
    generalize (g.q : Rat) = gq at *
    generalize (g.r : Rat) = gr at *
    refine of_mul_le (a := n2) ?_ hn
    have e : n2 * (gp * ((p * m - q * v) / n2) + gq * ((q * m + p * v) / n2)) = gp * (p * m - q * v) + gq * (q * m + p * v) := by grind
    show n2 * (gp * ((p * m - q * v) / n2) + gq * ((q * m + p * v) / n2)) ≤ _
    rw [e]
    grind
  · unfold lin2
    show p * ((p * m - q * v) / n2) + q * ((q * m + p * v) / n2) = m
    have e : p * ((p * m - q * v) / n2) + q * ((q * m + p * v) / n2) = (p * p + q * q) * m / n2 := by grind
    rw [e, en]
    grind
end PG

set_option maxRecDepth 100000
set_option maxHeartbeats 4000000
namespace PG
open PySem PySem.Spec PyProof.Rows L2 RT
/-! opposing directions, their weights -/
def ab (a : Int) : Int := if a < 0 then -a else a
def n1 (g : Hp3) : Int := ab g.p + ab g.q
def oppW (g k : Hp3) : Option (Int × Int) := if dt g k ≠ 0 ∨ 0 ≤ dotI g k then none else some (n1 k / (Int.gcd (n1 k) (n1 g) : Int), n1 g / (Int.gcd (n1 k) (n1 g) : Int))
def w3 (g k l : Hp3) : Int × Int × Int := if dt k l < 0 then (-dt k l, -dt l g, -dt g k) else (dt k l, dt l g, dt g k)
def gcd3 (a b c : Int) : Int := (Int.gcd (Int.gcd a b : Int) c : Int)
def triW (g k l : Hp3) : Option (Int × Int × Int) := if (w3 g k l).1 ≤ 0 ∨ (w3 g k l).2.1 ≤ 0 ∨ (w3 g k l).2.2 ≤ 0 then none else
  some ((w3 g k l).1 / gcd3 (w3 g k l).1 (w3 g k l).2.1 (w3 g k l).2.2, (w3 g k l).2.1 / gcd3 (w3 g k l).1 (w3 g k l).2.1 (w3 g k l).2.2, (w3 g k l).2.2 / gcd3 (w3 g k l).1 (w3 g k l).2.1 (w3 g k l).2.2)
theorem ab_nn (a : Int) : 0 ≤ ab a := by
  unfold ab
  split <;> omega
theorem ab_nat (a : Int) : ab a = (a.natAbs : Int) := abs_eq a
theorem n1_pos {g : Hp3} (h : Dir g) : 0 < n1 g := by
  unfold n1 ab
  unfold Dir at h
  split <;> split <;> omega
theorem dt_swap (g k : Hp3) : dt k g = - dt g k := by
  unfold dt
  grind
theorem dot_comm (g k : Hp3) : dotI k g = dotI g k := by
  unfold dotI
  grind
theorem dot_dir {g k : Hp3} (h : dotI g k < 0) : Dir g ∧ Dir k := by
  unfold dotI at h
  exact ⟨fun ⟨a, b⟩ => by rw [a, b] at h; omega, fun ⟨a, b⟩ => by rw [a, b] at h; omega⟩
/-- two opposite directions: one is a multiple of the other -/
theorem opp_lam {g k : Hp3} (h0 : dt g k = 0) (h1 : dotI g k < 0) : ∃ t : Rat, 0 < t ∧ (k.p : Rat) = - t * (g.p : Rat) ∧ (k.q : Rat) = - t * (g.q : Rat) := by
  have hg := (dot_dir h1).1.pos
  have e0 := dt_cast g k
  rw [h0] at e0
  have e1 := dot_cast g k
  have e2 := dot_cast g g
  have h1' : (dotI g k : Rat) < 0 := Rat.intCast_neg_iff.mpr h1
  refine ⟨-(dotI g k : Rat) / (dotI g g : Rat), ?_, ?_, ?_⟩
  · rw [Rat.div_def]
    exact Rat.mul_pos (by grind) (Rat.inv_pos.mpr hg)
  · generalize (dotI g g : Rat) = d at *
    generalize (dotI g k : Rat) = e at *
    have : ((0 : Int) : Rat) = 0 := rfl
    grind
  · generalize (dotI g g : Rat) = d at *
    generalize (dotI g k : Rat) = e at *
    have : ((0 : Int) : Rat) = 0 := rfl
    grind
theorem ab_cast (a : Int) : (ab a : Rat) = if (a : Rat) < 0 then -(a : Rat) else (a : Rat) := by
  unfold ab
  by_cases h : a < 0
  · rw [if_pos h, if_pos (Rat.intCast_neg_iff.mpr h), Rat.intCast_neg]
  · rw [if_neg h, if_neg (fun z => h (Rat.intCast_neg_iff.mp z))]
theorem n1_cast (g : Hp3) : (n1 g : Rat) = (ab g.p : Rat) + (ab g.q : Rat) := by
  unfold n1
  rw [Rat.intCast_add]
theorem ab_mul {t a b : Rat} (ht : 0 < t) (h : b = - t * a) : (if b < 0 then -b else b) = t * (if a < 0 then -a else a) := by
  by_cases h0 : a = 0
  · subst h0
    have : b = 0 := by grind
    subst this
    simp
  · by_cases n : a < 0
    · have w := Rat.mul_pos ht (show 0 < -a by grind)
      rw [if_pos n, if_neg (by grind)]
      grind
    · have w := Rat.mul_pos ht (show 0 < a by grind)
      rw [if_neg n, if_pos (by grind)]
      grind
theorem opp_n1 {g k : Hp3} {t : Rat} (ht : 0 < t) (h1 : (k.p : Rat) = - t * (g.p : Rat)) (h2 : (k.q : Rat) = - t * (g.q : Rat)) : (n1 k : Rat) = t * (n1 g : Rat) := by
  rw [n1_cast, n1_cast, ab_cast, ab_cast, ab_cast, ab_cast, ab_mul ht h1, ab_mul ht h2]
  grind
/-- what the weights of two opposite directions do -/
theorem oppW_some {g k : Hp3} {a b : Int} (h : oppW g k = some (a, b)) : dt g k = 0 ∧ dotI g k < 0 ∧ 0 < a ∧ 0 < b ∧ ∃ d : Int, 0 < d ∧ a * d = n1 k ∧ b * d = n1 g := by
  unfold oppW at h
  split at h
  · cases h
  · rename_i hn
    have h0 : dt g k = 0 := by
      by_cases z : dt g k = 0
      · exact z
      · exact (hn (.inl z)).elim
    have h1 : dotI g k < 0 := by
      have : ¬ 0 ≤ dotI g k := fun z => hn (.inr z)
      omega
    have pg := n1_pos (dot_dir h1).1
    have pk := n1_pos (dot_dir h1).2
    have dv1 : (Int.gcd (n1 k) (n1 g) : Int) ∣ n1 k := Int.gcd_dvd_left ..
    have dv2 : (Int.gcd (n1 k) (n1 g) : Int) ∣ n1 g := Int.gcd_dvd_right ..
    have dpos : 0 < (Int.gcd (n1 k) (n1 g) : Int) := by
      have : Int.gcd (n1 k) (n1 g) ≠ 0 := fun e => by
        have := (Int.gcd_eq_zero_iff.mp e).1
        omega
      omega
    generalize (Int.gcd (n1 k) (n1 g) : Int) = d at *
    cases h
    have e1 := Int.ediv_mul_cancel dv1
    have e2 := Int.ediv_mul_cancel dv2
    refine ⟨h0, h1, ?_, ?_, d, dpos, e1, e2⟩
    · rw [← e1] at pk
      exact Int.pos_of_mul_pos_right pk dpos
    · rw [← e2] at pg
      exact Int.pos_of_mul_pos_right pg dpos
where
  Int.pos_of_mul_pos_right {a d : Int} (h : 0 < a * d) (hd : 0 < d) : 0 < a := by
    rcases Int.lt_trichotomy a 0 with z | z | z
    · have := Int.mul_neg_of_neg_of_pos z hd
      omega
    · rw [z] at h
      omega
    · exact z
theorem mul_cancel_r {a b d : Rat} (hd : d ≠ 0) (h : a * d = b * d) : a = b := by
  have : a = a * d / d := by grind
  rw [this, h]
  grind
theorem oppW_dep {g k : Hp3} {a b : Int} (h : oppW g k = some (a, b)) : (a : Rat) * (g.p : Rat) + (b : Rat) * (k.p : Rat) = 0 ∧ (a : Rat) * (g.q : Rat) + (b : Rat) * (k.q : Rat) = 0 := by
  obtain ⟨h0, h1, pa, pb, d, hd, ea, eb⟩ := oppW_some h
  obtain ⟨t, ht, e1, e2⟩ := opp_lam h0 h1
  have en := opp_n1 ht e1 e2
  rw [← ea, ← eb, castI, castI] at en
  have hd' : (0 : Rat) < (d : Rat) := Rat.intCast_pos.mpr hd
  generalize (d : Rat) = d at *
  generalize (a : Rat) = a at *
  generalize (b : Rat) = b at *
  have : a = t * b := mul_cancel_r (show d ≠ 0 by grind) (by grind)
  rw [e1, e2, this]
  constructor <;> grind
theorem triW_some {g k l : Hp3} {a b c : Int} (h : triW g k l = some (a, b, c)) : 0 < a ∧ 0 < b ∧ 0 < c ∧ ∃ d : Int, d ≠ 0 ∧ a * d = dt k l ∧ b * d = dt l g ∧ c * d = dt g k := by
  unfold triW at h
  split at h
  · cases h
  · rename_i hn
    have p1 : 0 < (w3 g k l).1 := by
      have : ¬ (w3 g k l).1 ≤ 0 := fun z => hn (.inl z)
      omega
    have p2 : 0 < (w3 g k l).2.1 := by
      have : ¬ (w3 g k l).2.1 ≤ 0 := fun z => hn (.inr (.inl z))
      omega
    have p3 : 0 < (w3 g k l).2.2 := by
      have : ¬ (w3 g k l).2.2 ≤ 0 := fun z => hn (.inr (.inr z))
      omega
    obtain ⟨s, hs, s1, s2, s3⟩ : ∃ s : Int, s ≠ 0 ∧ (w3 g k l).1 * s = dt k l ∧ (w3 g k l).2.1 * s = dt l g ∧ (w3 g k l).2.2 * s = dt g k := by
      unfold w3
      split
      · exact ⟨-1, by decide, by dsimp only; omega, by dsimp only; omega, by dsimp only; omega⟩
      · exact ⟨1, by decide, by dsimp only; omega, by dsimp only; omega, by dsimp only; omega⟩
    generalize (w3 g k l).1 = x at *
    generalize (w3 g k l).2.1 = y at *
    generalize (w3 g k l).2.2 = z at *
    have dv : (Int.gcd x y : Int) ∣ x ∧ (Int.gcd x y : Int) ∣ y := ⟨Int.gcd_dvd_left .., Int.gcd_dvd_right ..⟩
    have dv0 : gcd3 x y z ∣ (Int.gcd x y : Int) := Int.gcd_dvd_left ..
    have dv1 : gcd3 x y z ∣ x := Int.dvd_trans dv0 dv.1
    have dv2 : gcd3 x y z ∣ y := Int.dvd_trans dv0 dv.2
    have dv3 : gcd3 x y z ∣ z := Int.gcd_dvd_right ..
    have dpos : 0 < gcd3 x y z := by
      have : Int.gcd (Int.gcd x y : Int) z ≠ 0 := fun e => by
        have := (Int.gcd_eq_zero_iff.mp e).2
        omega
      unfold gcd3
      omega
    generalize gcd3 x y z = d at *
    cases h
    have e1 := Int.ediv_mul_cancel dv1
    have e2 := Int.ediv_mul_cancel dv2
    have e3 := Int.ediv_mul_cancel dv3
    refine ⟨?_, ?_, ?_, d * s, ?_, ?_, ?_, ?_⟩
    · rw [← e1] at p1
      exact oppW_some.Int.pos_of_mul_pos_right p1 dpos
    · rw [← e2] at p2
      exact oppW_some.Int.pos_of_mul_pos_right p2 dpos
    · rw [← e3] at p3
      exact oppW_some.Int.pos_of_mul_pos_right p3 dpos
    · exact Int.mul_ne_zero (by omega) hs
    · rw [← Int.mul_assoc, e1, s1]
    · rw [← Int.mul_assoc, e2, s2]
    · rw [← Int.mul_assoc, e3, s3]
theorem triW_dep {g k l : Hp3} {a b c : Int} (h : triW g k l = some (a, b, c)) : (a : Rat) * (g.p : Rat) + (b : Rat) * (k.p : Rat) + (c : Rat) * (l.p : Rat) = 0 ∧ (a : Rat) * (g.q : Rat) + (b : Rat) * (k.q : Rat) + (c : Rat) * (l.q : Rat) = 0 := by
  obtain ⟨_, _, _, d, hd, e1, e2, e3⟩ := triW_some h
  have hd' : (d : Rat) ≠ 0 := fun z => hd (Rat.intCast_eq_zero_iff.mp z)
  have f1 : (a : Rat) * (d : Rat) = (dt k l : Rat) := by rw [← castI, e1]
  have f2 : (b : Rat) * (d : Rat) = (dt l g : Rat) := by rw [← castI, e2]
  have f3 : (c : Rat) * (d : Rat) = (dt g k : Rat) := by rw [← castI, e3]
  rw [dt_cast] at f1 f2 f3
  generalize (d : Rat) = d at *
  generalize (a : Rat) = a at *
  generalize (b : Rat) = b at *
  generalize (c : Rat) = c at *
  constructor
  · have : d * (a * (g.p : Rat) + b * (k.p : Rat) + c * (l.p : Rat)) = 0 := by grind
    grind
  · have : d * (a * (g.q : Rat) + b * (k.q : Rat) + c * (l.q : Rat)) = 0 := by grind
    grind
/-! certificates, by the half-planes themselves -/
def C2 (g k : Hp3) : Prop := ∃ t : Rat, 0 < t ∧ (k.p : Rat) = - t * (g.p : Rat) ∧ (k.q : Rat) = - t * (g.q : Rat) ∧ Dir g ∧ t * (g.r : Rat) + (k.r : Rat) < 0
def C3 (g k l : Hp3) : Prop := ∃ a b c : Rat, 0 < a ∧ 0 < b ∧ 0 < c ∧ a * (g.p : Rat) + b * (k.p : Rat) + c * (l.p : Rat) = 0 ∧ a * (g.q : Rat) + b * (k.q : Rat) + c * (l.q : Rat) = 0 ∧ a * (g.r : Rat) + b * (k.r : Rat) + c * (l.r : Rat) < 0 ∧ dt g k ≠ 0
/-- a region has a ray, or there is a certificate -/
theorem helly : ∀ {hs : List Hp3}, (∀ g ∈ hs, Dir g) → (∃ x, Rg hs x) ∨ (∃ g ∈ hs, ∃ k ∈ hs, C2 g k) ∨ (∃ g ∈ hs, ∃ k ∈ hs, ∃ l ∈ hs, C3 g k l)
  | [], _ => .inl ⟨(0, 0), fun g hg => nomatch hg⟩
  | g :: r, hd => by
    rcases helly (hs := r) fun k hk => hd k (List.mem_cons_of_mem _ hk) with ⟨x0, hx⟩ | ⟨k, hk, l, hl, h⟩ | ⟨k, hk, l, hl, m, hm, h⟩
    · by_cases c : valH g x0 ≤ (g.r : Rat)
      · refine .inl ⟨x0, fun k hk => ?_⟩
        rcases List.mem_cons.mp hk with e | e
        · rw [e]; exact c
        · exact hx k e
      · have dg := (hd g List.mem_cons_self).rat
        have hpq : ¬ (-(g.p : Rat) = 0 ∧ -(g.q : Rat) = 0) := fun ⟨a, b⟩ => dg ⟨by grind, by grind⟩
        by_cases hall : ∀ b, some b ∈ bounds (-(g.p : Rat)) (-(g.q : Rat)) r → -(g.r : Rat) ≤ b
        · obtain ⟨x, hx1, hx2⟩ := reach hpq (fun k hk => hd k (List.mem_cons_of_mem _ hk)) hx (m := -(g.r : Rat)) (by unfold lin2; unfold valH at c; grind) hall
          refine .inl ⟨x, fun k hk => ?_⟩
          rcases List.mem_cons.mp hk with e | e
          · rw [e]
            unfold lin2 at hx2
            unfold valH
            grind
          · exact hx1 k e
        · obtain ⟨b, hb⟩ : ∃ b, ¬ (some b ∈ bounds (-(g.p : Rat)) (-(g.q : Rat)) r → -(g.r : Rat) ≤ b) := Classical.not_forall.mp hall
          obtain ⟨hb1, hb2⟩ := Classical.not_imp.mp hb
          refine .inr ?_
          rcases List.mem_append.mp hb1 with h | h
          · obtain ⟨k, hk, e⟩ := List.mem_map.mp h
            refine .inl ⟨k, List.mem_cons_of_mem _ hk, g, List.mem_cons_self, ?_⟩
            unfold sglB at e
            split at e
            · rename_i hc
              have e := Option.some.inj e
              have hp := (hd k (List.mem_cons_of_mem _ hk)).pos
              have e2 := dot_cast k k
              generalize (dotI k k : Rat) = d at *
              refine ⟨((k.p : Rat) * -(g.p : Rat) + (k.q : Rat) * -(g.q : Rat)) / d, ?_, ?_, ?_, hd k (List.mem_cons_of_mem _ hk), ?_⟩
              · rw [Rat.div_def]
                exact Rat.mul_pos hc.2 (Rat.inv_pos.mpr hp)
              · grind
              · grind
              · rw [e]
                grind
            · cases e
          · obtain ⟨k, hk, l, hl, e⟩ := mem_prs h
            refine .inr ⟨k, List.mem_cons_of_mem _ hk, l, List.mem_cons_of_mem _ hl, g, List.mem_cons_self, ?_⟩
            unfold prB at e
            cases hw : prW (-(g.p : Rat)) (-(g.q : Rat)) k l with
            | none =>
              rw [hw] at e
              cases e
            | some w =>
              rw [hw] at e
              obtain ⟨nd, w1, w2, f1, f2⟩ := prW_some hw
              have e' : b = w.1 * (k.r : Rat) + w.2 * (l.r : Rat) := Option.some.inj e
              exact ⟨w.1, w.2, 1, w1, w2, by decide, by grind, by grind, by grind, nd⟩
    · exact .inr (.inl ⟨k, List.mem_cons_of_mem _ hk, l, List.mem_cons_of_mem _ hl, h⟩)
    · exact .inr (.inr ⟨k, List.mem_cons_of_mem _ hk, l, List.mem_cons_of_mem _ hl, m, List.mem_cons_of_mem _ hm, h⟩)
end PG

set_option maxRecDepth 100000
set_option maxHeartbeats 4000000
namespace PG
open PySem PySem.Spec PyProof.Rows L2 RT
theorem lgm {a b : Int} {n m : Nat} (h1 : a.natAbs.log2 + 2 ≤ n) (h2 : b.natAbs.log2 + 2 ≤ m) : (a * b).natAbs.log2 + 3 ≤ n + m := by
  have := @log2_mul_le a.natAbs b.natAbs
  rw [Int.natAbs_mul]
  omega
theorem lga {a b : Int} {n : Nat} (h1 : a.natAbs.log2 ≤ n) (h2 : b.natAbs.log2 ≤ n) : (a + b).natAbs.log2 ≤ n + 1 := by
  have := log2_mono (Int.natAbs_add_le a b)
  have := @log2_add_le a.natAbs b.natAbs
  omega
theorem lgs {a b : Int} {n : Nat} (h1 : a.natAbs.log2 ≤ n) (h2 : b.natAbs.log2 ≤ n) : (a - b).natAbs.log2 ≤ n + 1 := by
  rw [Int.sub_eq_add_neg]
  exact lga h1 (by rw [Int.natAbs_neg]; exact h2)
theorem dt_z {n : Nat} {g k : Hp3} (hg : HZ n g) (hk : HZ n k) : (dt g k).natAbs.log2 + 2 ≤ 2 * n := by
  have a := lgm hg.1 hk.2.1
  have b := lgm hg.2.1 hk.1
  have := lgs (a := g.p * k.q) (b := g.q * k.p) (n := 2 * n - 3) (by omega) (by omega)
  unfold dt
  omega
theorem dot_z {n : Nat} {g k : Hp3} (hg : HZ n g) (hk : HZ n k) : (dotI g k).natAbs.log2 + 2 ≤ 2 * n := by
  have a := lgm hg.1 hk.1
  have b := lgm hg.2.1 hk.2.1
  have := lga (a := g.p * k.p) (b := g.q * k.q) (n := 2 * n - 3) (by omega) (by omega)
  unfold dotI
  omega
section
variable {st : List Cell} {Q : Vl → List Cell → Prop} {g k l : Hp3} {n : Nat}
theorem det_ok (hg : HZ n g) (hk : HZ n k) (hn : n ≤ 10000000) (h : Q (.d (.int (dt g k))) st) : sp_determinant [.d (hpD g), .d (hpD k)] st Q := by
  unfold sp_determinant
  obtain ⟨g1, g2, _⟩ := hg
  obtain ⟨k1, k2, _⟩ := hk
  exact ⟨rfl, mulok (zm (by omega)), mulok (zm (by omega)), trivial, tk h⟩
theorem prod_ok (hg : HZ n g) (hk : HZ n k) (hn : n ≤ 10000000) (h : Q (.d (.int (dotI g k))) st) : sp_product [.d (hpD g), .d (hpD k)] st Q := by
  unfold sp_product
  obtain ⟨g1, g2, _⟩ := hg
  obtain ⟨k1, k2, _⟩ := hk
  exact ⟨rfl, mulok (zm (by omega)), mulok (zm (by omega)), tk h⟩
/-- an if over the first of two -/
theorem ifd {P : Prop} [Decidable P] {A B : Prop} (ht : P → A) (hf : ¬ P → B) : if decide P = true then A else B := by
  by_cases h : P
  · rw [if_pos (decide_eq_true h)]
    exact ht h
  · rw [if_neg (by simpa using h)]
    exact hf h
def ow2D : Option (Int × Int) → Dt
  | none => .non
  | some (a, b) => .tup [.int a, .int b]
def ow3D : Option (Int × Int × Int) → Dt
  | none => .non
  | some (a, b, c) => .tup [.int a, .int b, .int c]
theorem oppw_ok (hg : HZ n g) (hk : HZ n k) (hn : n ≤ 10000000) (h : Q (.d (ow2D (oppW g k))) st) : sp_opposite_weights [.d (hpD g), .d (hpD k)] st Q := by
  unfold sp_opposite_weights
  refine ⟨rfl, ?_⟩
  let S : Option Vl → Option Vl → Option Vl → M := fun z2 z3 z4 => ⟨[some (.d (hpD g)), some (.d (hpD k)), z2, z3, z4], st⟩
  by_cases c : dt g k ≠ 0 ∨ 0 ≤ dotI g k
  · have e : oppW g k = none := by unfold oppW; rw [if_pos c]
    rw [e] at h
    refine det_ok hg hk hn ⟨rfl, rfl, ?_⟩
    show if (!eqD (.int (dt g k)) (.int 0)) = true then _ else _
    rw [eqD_int]
    by_cases c0 : dt g k = 0
    · rw [decide_eq_true c0, if_neg (by decide)]
      refine prod_ok hg hk hn ⟨trivial, ?_⟩
      refine ifd (fun _ => tk h) fun z => ?_
      exact (z (c.resolve_left (fun z => z c0))).elim
    · rw [decide_eq_false c0]
      exact tk h
  · have c0 : dt g k = 0 := Classical.not_not.mp fun z => c (.inl z)
    have c1 : ¬ 0 ≤ dotI g k := fun z => c (.inr z)
    have e : oppW g k = some (n1 k / (Int.gcd (n1 k) (n1 g) : Int), n1 g / (Int.gcd (n1 k) (n1 g) : Int)) := by unfold oppW; rw [if_neg c]
    rw [e] at h
    refine guard_st (S none none none) (fun K hK => ?_) ?_
    · refine det_ok hg hk hn ⟨rfl, rfl, ?_⟩
      show if (!eqD (.int (dt g k)) (.int 0)) = true then _ else _
      rw [eqD_int, decide_eq_true c0, if_neg (by decide)]
      refine prod_ok hg hk hn ⟨trivial, ?_⟩
      show K (decide (0 ≤ dotI g k)) _
      rw [decide_eq_false c1]
      exact hK
    refine seq_to (S (some (.d (.int (n1 k)))) none none) (fun K hK => hK) ?_
    refine seq_to (S (some (.d (.int (n1 k)))) (some (.d (.int (n1 g)))) none) (fun K hK => hK) ?_
    have dpos : (Int.gcd (n1 k) (n1 g) : Int) ≠ 0 := by
      have hd : Int.gcd (n1 k) (n1 g) ≠ 0 := fun e => by
        have := (Int.gcd_eq_zero_iff.mp e).1
        have := n1_pos (dot_dir (show dotI g k < 0 by omega)).2
        omega
      omega
    refine gcd_ok ⟨dpos, dpos, lineN rfl, tk ?_⟩
    show Q (.d (.tup [.int ((n1 k).fdiv (Int.gcd (n1 k) (n1 g) : Int)), .int ((n1 g).fdiv (Int.gcd (n1 k) (n1 g) : Int))])) st
    rw [fdiv_pos (by omega), fdiv_pos (by omega)]
    exact h
theorem triw_ok (hg : HZ n g) (hk : HZ n k) (hl : HZ n l) (hn : n ≤ 10000000) (h : Q (.d (ow3D (triW g k l))) st) : sp_triple_weights [.d (hpD g), .d (hpD k), .d (hpD l)] st Q := by
  unfold sp_triple_weights
  refine ⟨rfl, ?_⟩
  let S : Option Vl → Option Vl → M := fun z3 z4 => ⟨[some (.d (hpD g)), some (.d (hpD k)), some (.d (hpD l)), z3, z4, none], st⟩
  have triD : ∀ a b c : Int, Dt.lst [.int a, .int b, .int c] = .lst ([a, b, c].map .int) := fun _ _ _ => rfl
  refine seq_to (S (some (.d (.lst ([dt k l, dt l g, dt g k].map .int)))) none) (fun K hK => ?_) ?_
  · refine det_ok hk hl hn ?_
    refine det_ok hl hg hn ?_
    refine det_ok hg hk hn ⟨lineN rfl, ?_⟩
    exact hK
  refine seq_to (S (some (.d (.lst ([(w3 g k l).1, (w3 g k l).2.1, (w3 g k l).2.2].map .int)))) none) (fun K hK => ?_) ?_
  · refine ⟨trivial, ifd (fun z => ?_) fun z => ?_⟩
    · refine dlc_map Dt.int (fun x => Dt.int (-x)) (xs := [dt k l, dt l g, dt g k]) (fun K2 h2 => ?_) (fun x hx C hC => ?_) (Nat.le_of_ble_eq_true rfl) ?_
      · exact h2
      · exact hC _
      · have e : w3 g k l = (-dt k l, -dt l g, -dt g k) := by unfold w3; rw [if_pos z]
        rw [e] at hK
        exact hK
    · have e : w3 g k l = (dt k l, dt l g, dt g k) := by unfold w3; rw [if_neg z]
      rw [e] at hK
      exact hK
  unfold triW at h
  generalize (w3 g k l).1 = x at *
  generalize (w3 g k l).2.1 = y at *
  generalize (w3 g k l).2.2 = z at *
  by_cases c : x ≤ 0 ∨ y ≤ 0 ∨ z ≤ 0
  · rw [if_pos c] at h
    refine ifs_t (S (some (.d (.lst ([x, y, z].map .int)))) none) (fun K hK => ?_) ?_
    · refine gx_any Dt.int (fun a => decide (a ≤ 0)) (xs := [x, y, z]) (fun a ha C hC => ?_) ?_
      · exact ⟨trivial, hC _⟩
      · have e : [x, y, z].any (fun a => decide (a ≤ 0)) = true := by
          simp only [List.any_cons, List.any_nil, Bool.or_eq_true, decide_eq_true_eq]
          rcases c with c | c | c
          · exact .inl c
          · exact .inr (.inl c)
          · exact .inr (.inr (.inl c))
        rw [e]
        exact hK
    · exact tk h
  · rw [if_neg c] at h
    refine guard_st (S (some (.d (.lst ([x, y, z].map .int)))) none) (fun K hK => ?_) ?_
    · refine gx_any Dt.int (fun a => decide (a ≤ 0)) (xs := [x, y, z]) (fun a ha C hC => ?_) ?_
      · exact ⟨trivial, hC _⟩
      · have e : [x, y, z].any (fun a => decide (a ≤ 0)) = false := by
          simp only [List.any_cons, List.any_nil, Bool.or_false, Bool.or_eq_false_iff, decide_eq_false_iff_not]
          exact ⟨fun a => c (.inl a), fun a => c (.inr (.inl a)), fun a => c (.inr (.inr a))⟩
        rw [e]
        exact hK
    have dpos : gcd3 x y z ≠ 0 := by
      have hd : Int.gcd (Int.gcd x y : Int) z ≠ 0 := fun e => by
        have := (Int.gcd_eq_zero_iff.mp e).2
        have : ¬ z ≤ 0 := fun a => c (.inr (.inr a))
        omega
      unfold gcd3
      omega
    have dpos2 : 0 < gcd3 x y z := by unfold gcd3 at *; omega
    refine seq_to (S (some (.d (.lst ([x, y, z].map .int)))) (some (.d (.int (gcd3 x y z))))) (fun K hK => ?_) ?_
    · refine gcd_ok ?_
      refine gcd_ok ?_
      exact hK
    unfold dRet dBi
    refine dlc_map Dt.int (fun a => Dt.int (a.fdiv (gcd3 x y z))) (xs := [x, y, z]) (fun K2 h2 => ?_) (fun x hx C hC => ?_) (Nat.le_of_ble_eq_true rfl) ?_
    · exact h2
    · exact ⟨dpos, hC _⟩
    · show Q (.d (.tup [.int (x.fdiv (gcd3 x y z)), .int (y.fdiv (gcd3 x y z)), .int (z.fdiv (gcd3 x y z))])) (st.take st.length)
      rw [fdiv_pos dpos2, fdiv_pos dpos2, fdiv_pos dpos2]
      exact tk h
end
end PG

set_option maxRecDepth 100000
set_option maxHeartbeats 4000000
namespace PG
open PySem PySem.Spec PyProof.Rows L2 RT
/-- a loop over a range that adds to a list -/
theorem range_app {β : Type} {i : Nat} {b : DS} {all : List Dt} {E : DEnds} (P : List β → M → Prop) (F : Nat → List β) {hi L : Nat}
    (hs : ∀ (k : Nat) (acc : List β) (m : M) (K : M → Prop), k < hi → acc.length + (F k).length ≤ L → P acc m → (∀ m', P (acc ++ F k) m' → K m') → b ⟨K, E.rt, E.nx, K⟩ ⟨m.sl.set i (some (.d (.int k))), m.st⟩) :
    ∀ (n k : Nat) (acc : List β) (m : M), k + n = hi → (acc ++ (List.range' k n).flatMap F).length ≤ L → P acc m → (∀ m', P (acc ++ (List.range' k n).flatMap F) m' → E.nx m') → dLoop (.nm i) b all none E (rangeD k n) m
  | 0, k, acc, m, _, _, p, h => ⟨trivial, h m (by simpa using p)⟩
  | n + 1, k, acc, m, hk, hL, p, h => ⟨trivial, by
    have e : acc ++ (List.range' k (n + 1)).flatMap F = (acc ++ F k) ++ (List.range' (k + 1) n).flatMap F := by
      rw [List.range'_succ, List.flatMap_cons, List.append_assoc]
    rw [e] at hL h
    refine hs k acc m _ (by omega) (by rw [List.length_append, List.length_append] at hL; omega) p fun m' p' => ?_
    have := range_app P F (i := i) (b := b) (all := all) (E := E) hs n (k + 1) (acc ++ F k) m' (by omega) hL p' h
    exact this⟩
theorem flatMap_len {α β : Type} {f : α → List β} {c : Nat} : ∀ {l : List α}, (∀ x ∈ l, (f x).length ≤ c) → (l.flatMap f).length ≤ l.length * c
  | [], _ => by simp
  | a :: l, h => by
    rw [List.flatMap_cons, List.length_append, List.length_cons, Nat.succ_mul]
    have h1 := h a List.mem_cons_self
    have h2 := flatMap_len (f := f) (c := c) (l := l) fun x hx => h x (List.mem_cons_of_mem _ hx)
    omega
/-! opposing sets -/
def hAt (hs : List Hp3) (i : Nat) : Hp3 := hs.getD i ⟨1, 0, 0⟩
abbrev OSet := List Nat × Option (List Int)
def pr2 (hs : List Hp3) (i j : Nat) : OSet := ([i, j], (oppW (hAt hs i) (hAt hs j)).map fun w => [w.1, w.2])
def pr3 (hs : List Hp3) (i j k : Nat) : OSet := ([i, j, k], (triW (hAt hs i) (hAt hs j) (hAt hs k)).map fun w => [w.1, w.2.1, w.2.2])
def upTo (n k : Nat) : List Nat := List.range' (k + 1) (n - (k + 1))
def allP (hs : List Hp3) : List OSet := (List.range' 0 hs.length).flatMap fun i => (upTo hs.length i).flatMap fun j => [pr2 hs i j]
def allT (hs : List Hp3) : List OSet := (List.range' 0 hs.length).flatMap fun i => (upTo hs.length i).flatMap fun j => (upTo hs.length j).flatMap fun k => [pr3 hs i j k]
def osets (hs : List Hp3) : List (List Nat × List Int) := (allP hs ++ allT hs).filterMap fun s => s.2.map fun w => (s.1, w)
def ixD (ix : List Nat) : Dt := .tup (ix.map fun i : Nat => Dt.int (i : Int))
def wsD (ws : List Int) : Dt := .tup (ws.map .int)
def owD : Option (List Int) → Dt
  | none => .non
  | some w => wsD w
def osD (s : OSet) : Dt := .tup [ixD s.1, owD s.2]
def oD (s : List Nat × List Int) : Dt := .tup [ixD s.1, wsD s.2]
theorem upTo_len (n k : Nat) : (upTo n k).length ≤ n := by
  unfold upTo
  rw [List.length_range']
  omega
theorem allP_len (hs : List Hp3) : (allP hs).length ≤ hs.length * hs.length := by
  refine Nat.le_trans (flatMap_len (c := hs.length) fun i _ => ?_) (by rw [List.length_range']; exact Nat.le_refl _)
  refine Nat.le_trans (flatMap_len (c := 1) fun j _ => Nat.le_refl _) ?_
  have := upTo_len hs.length i
  omega
theorem allT_len (hs : List Hp3) : (allT hs).length ≤ hs.length * (hs.length * hs.length) := by
  refine Nat.le_trans (flatMap_len (c := hs.length * hs.length) fun i _ => ?_) (by rw [List.length_range']; exact Nat.le_refl _)
  refine Nat.le_trans (flatMap_len (c := hs.length) fun j _ => ?_) (Nat.mul_le_mul_right _ (upTo_len hs.length i))
  refine Nat.le_trans (flatMap_len (c := 1) fun k _ => Nat.le_refl _) ?_
  have := upTo_len hs.length j
  omega
theorem hAt_get {hs : List Hp3} {i : Nat} (h : i < hs.length) : hs[i]? = some (hAt hs i) := by
  unfold hAt
  rw [List.getD_eq_getElem?_getD, List.getElem?_eq_getElem h]
  rfl
theorem hAt_mem {hs : List Hp3} {i : Nat} (h : i < hs.length) : hAt hs i ∈ hs := List.mem_of_getElem? (hAt_get h)
theorem ow2_eq (o : Option (Int × Int)) : ow2D o = owD (o.map fun w => [w.1, w.2]) := by
  cases o <;> rfl
theorem ow3_eq (o : Option (Int × Int × Int)) : ow3D o = owD (o.map fun w => [w.1, w.2.1, w.2.2]) := by
  cases o <;> rfl
theorem opt_map : ∀ l : List OSet, (l.filter fun s => s.2.isSome).map osD = (l.filterMap fun s => s.2.map fun w => (s.1, w)).map oD
  | [] => rfl
  | (ix, none) :: l => opt_map l
  | (ix, some w) :: l => congrArg (osD (ix, some w) :: ·) (opt_map l)
/-- .. over a list of one's own -/
theorem filt_own {α : Type} {f : α → Dt} {p : α → Bool} {sl slw : List (Option Vl)} {i : Nat} {lk : Option Nat} {tt : DT} {all : List Dt} {st : List Cell} {K : List Dt → M → Prop} (hlk : lockOk lk all ⟨sl, st⟩) (hi : i < slw.length)
    (ht : ∀ (a : α) (P : Bool → M → Prop), P (p a) ⟨slw.set i (some (.d (f a))), st⟩ → tt ⟨slw.set i (some (.d (f a))), st⟩ P) :
    ∀ (xs acc : List α), acc.length + xs.length ≤ 1000000 → K ((acc ++ xs.filter p).map f) ⟨sl, st⟩ → dLcGo sl slw (.nm i) tt (dVar i) all lk K (xs.map f) (acc.map f) st
  | [], acc, _, h => ⟨hlk, by rw [List.filter_nil, List.append_nil] at h; exact h⟩
  | x :: xs, acc, hl, h => by
    rw [List.length_cons] at hl
    have hlk' := hlk
    refine ⟨hlk', ht x _ ?_⟩
    have hv : (slw.set i (some (.d (f x))))[i]? = some (some (.d (f x))) := by simp [hi]
    cases hp : p x with
    | true =>
      rw [if_pos rfl]
      unfold dVar
      simp only [hv]
      refine ⟨by rw [List.length_map]; exact small_lt (by omega), ?_⟩
      have := filt_own (all := all) (K := K) hlk hi ht xs (acc ++ [x]) (by rw [List.length_append, List.length_singleton]; omega) (by rw [List.append_assoc]; rw [List.filter_cons, if_pos hp] at h; exact h)
      rw [List.map_append] at this
      exact this
    | false =>
      exact filt_own (K := K) hlk hi ht xs acc (by omega) (by rw [List.filter_cons, if_neg (by rw [hp]; decide)] at h; exact h)
section
variable {st : List Cell} {Q : Vl → List Cell → Prop} {hs : List Hp3} {n : Nat}
theorem osets_ok (hg : ∀ g ∈ hs, HZ n g) (hn : n ≤ 10000000) (hl : hs.length ≤ 45) (h : Q (.d (.lst ((osets hs).map oD))) st) : sp_opposing_sets [.d (.lst (hs.map hpD))] st Q := by
  unfold sp_opposing_sets
  refine ⟨rfl, ?_⟩
  let S : Option Vl → Option Vl → Option Vl → List OSet → M := fun z3 z4 z5 acc => ⟨[some (.d (.lst (hs.map hpD))), some (.d (.int hs.length)), some (.c st.length), z3, z4, z5, none], st ++ [Cell.lst (acc.map osD)]⟩
  have hP : (allP hs).length ≤ 2025 := Nat.le_trans (allP_len hs) (Nat.mul_le_mul hl hl)
  have hT : (allT hs).length ≤ 91125 := Nat.le_trans (allT_len hs) (Nat.mul_le_mul hl (Nat.mul_le_mul hl hl))
  refine seq_to ⟨[some (.d (.lst (hs.map hpD))), some (.d (.int hs.length)), none, none, none, none, none], st⟩ (fun K hK => ?_) ?_
  · show K ⟨[_, some (.d (.int ((hs.map hpD).length : Int))), none, none, none, none, none], st⟩
    rw [List.length_map]
    exact hK
  refine seq_to (S none none none []) (fun K hK => ⟨lineN rfl, hK⟩) ?_
  have sm : ∀ a b : Nat, a ≤ 100 → b ≤ 100 → small62 (a : Int) ∧ small62 (b : Int) := fun a b ha hb => ⟨⟨by omega, by omega⟩, ⟨by omega, by omega⟩⟩
  have at_ : ∀ i, i < hs.length → atI (hs.map hpD) (i : Int) = some (hpD (hAt hs i)) := fun i hi => atI_map (f := hpD) (hAt_get hi)
  have rg : ∀ k : Nat, k < hs.length → rangeD (((k : Nat) : Int) + 1) (((hs.length : Nat) : Int) - (((k : Nat) : Int) + 1)).toNat = rangeD ((k + 1 : Nat) : Int) (hs.length - (k + 1)) := fun k hk => by
    congr 1
    omega
  refine seq_mid (fun m => ∃ z3 z4, m = S z3 z4 none (allP hs)) (fun K hK => ?_) ?_
  · refine ⟨(sm hs.length hs.length (by omega) (by omega)).1, ?_⟩
    refine range_app (fun acc m => ∃ z3 z4, m = S z3 z4 none acc) (fun i => (upTo hs.length i).flatMap fun j => [pr2 hs i j]) (hi := hs.length) (L := 2025) ?_ hs.length 0 [] _ (by omega) hP ⟨none, none, rfl⟩ (fun m' p' => hK m' p')
    rintro i acc _ K2 hi hL ⟨z3, z4, rfl⟩ hK2
    refine ⟨sm (i + 1) hs.length (by omega) (by omega), ?_⟩
    show dLoop (.nm 4) _ _ none _ (rangeD (((i : Nat) : Int) + 1) (((hs.length : Nat) : Int) - (((i : Nat) : Int) + 1)).toNat) _
    rw [rg i hi]
    refine range_app (fun acc m => ∃ z4, m = S (some (.d (.int i))) z4 none acc) (fun j => [pr2 hs i j]) (hi := hs.length) (L := 2025) ?_ _ (i + 1) acc _ (by omega) (by rw [List.length_append]; exact hL) ⟨z4, rfl⟩ (fun m' ⟨z4', p'⟩ => hK2 m' ⟨_, _, p'⟩)
    rintro j acc _ K3 hj hL ⟨z4, rfl⟩ hK3
    refine append_st (k := st.length) (xs := acc.map osD) (osD (pr2 hs i j)) ?_ ?_ (fun C hC => ?_) (small_lt (by rw [List.length_map]; omega)) ?_
    · rfl
    · exact getElem_last _ _
    · refine ⟨lineN rfl, ?_⟩
      refine rIx_mk (at_ i hi) ?_
      refine rIx_mk (at_ j hj) ?_
      refine oppw_ok (hg _ (hAt_mem hi)) (hg _ (hAt_mem hj)) hn ⟨lineN rfl, ?_⟩
      rw [ow2_eq]
      exact hC
    · refine hK3 _ ⟨some (.d (.int j)), congrArg (M.mk _) ?_⟩
      show (st ++ [_]).set st.length _ = st ++ [_]
      rw [set_last, List.map_append]
      rfl
  rintro _ ⟨z3, z4, rfl⟩
  refine seq_mid (fun m => ∃ z3 z4 z5, m = S z3 z4 z5 (allP hs ++ allT hs)) (fun K hK => ?_) ?_
  · refine ⟨(sm hs.length hs.length (by omega) (by omega)).1, ?_⟩
    refine range_app (fun acc m => ∃ z3 z4 z5, m = S z3 z4 z5 acc) (fun i => (upTo hs.length i).flatMap fun j => (upTo hs.length j).flatMap fun k => [pr3 hs i j k]) (hi := hs.length) (L := 93150) ?_ hs.length 0 (allP hs) _ (by omega) (by rw [List.length_append]; exact Nat.le_trans (Nat.add_le_add hP hT) (by decide)) ⟨_, _, none, rfl⟩ (fun m' p' => hK m' p')
    rintro i acc _ K2 hi hL ⟨z3, z4, z5, rfl⟩ hK2
    refine ⟨sm (i + 1) hs.length (by omega) (by omega), ?_⟩
    show dLoop (.nm 4) _ _ none _ (rangeD (((i : Nat) : Int) + 1) (((hs.length : Nat) : Int) - (((i : Nat) : Int) + 1)).toNat) _
    rw [rg i hi]
    refine range_app (fun acc m => ∃ z4 z5, m = S (some (.d (.int i))) z4 z5 acc) (fun j => (upTo hs.length j).flatMap fun k => [pr3 hs i j k]) (hi := hs.length) (L := 93150) ?_ _ (i + 1) acc _ (by omega) (by rw [List.length_append]; exact hL) ⟨z4, z5, rfl⟩ (fun m' ⟨z4', z5', p'⟩ => hK2 m' ⟨_, _, _, p'⟩)
    rintro j acc _ K3 hj hL ⟨z4, z5, rfl⟩ hK3
    refine ⟨sm (j + 1) hs.length (by omega) (by omega), ?_⟩
    show dLoop (.nm 5) _ _ none _ (rangeD (((j : Nat) : Int) + 1) (((hs.length : Nat) : Int) - (((j : Nat) : Int) + 1)).toNat) _
    rw [rg j hj]
    refine range_app (fun acc m => ∃ z5, m = S (some (.d (.int i))) (some (.d (.int j))) z5 acc) (fun k => [pr3 hs i j k]) (hi := hs.length) (L := 93150) ?_ _ (j + 1) acc _ (by omega) (by rw [List.length_append]; exact hL) ⟨z5, rfl⟩ (fun m' ⟨z5', p'⟩ => hK3 m' ⟨_, _, p'⟩)
    rintro k acc _ K4 hk hL ⟨z5, rfl⟩ hK4
    refine append_st (k := st.length) (xs := acc.map osD) (osD (pr3 hs i j k)) ?_ ?_ (fun C hC => ?_) (small_lt (by rw [List.length_map]; omega)) ?_
    · rfl
    · exact getElem_last _ _
    · refine ⟨lineN rfl, ?_⟩
      refine rIx_mk (at_ i hi) ?_
      refine rIx_mk (at_ j hj) ?_
      refine rIx_mk (at_ k hk) ?_
      refine triw_ok (hg _ (hAt_mem hi)) (hg _ (hAt_mem hj)) (hg _ (hAt_mem hk)) hn ⟨lineN rfl, ?_⟩
      rw [ow3_eq]
      exact hC
    · refine hK4 _ ⟨some (.d (.int k)), congrArg (M.mk _) ?_⟩
      show (st ++ [_]).set st.length _ = st ++ [_]
      rw [set_last, List.map_append]
      rfl
  rintro _ ⟨z3, z4, z5, rfl⟩
  show onC (st ++ [Cell.lst ((allP hs ++ allT hs).map osD)]) st.length _
  refine onC_mk (getElem_last _ _) ?_
  refine filt_own (f := osD) (p := fun s => s.2.isSome) (i := 6) ?_ ?_ (fun s P hP => ?_) (allP hs ++ allT hs) [] ?_ ?_
  · exact getElem_last _ _
  · exact Nat.lt_of_sub_eq_succ rfl
  · obtain ⟨ix, o⟩ := s
    cases o <;> exact hP
  · rw [List.length_append, List.length_nil]
    omega
  · rw [List.nil_append, opt_map]
    show Q (.d (.lst _)) ((st ++ [_]).take st.length)
    rw [List.take_left]
    exact h
end
end PG

set_option maxRecDepth 100000
set_option maxHeartbeats 4000000
namespace PG
open PySem PySem.Spec PyProof.Rows L2 RT
def numOf (hs : List Hp3) (s : List Nat × List Int) : Int := ((s.1.zip s.2).map fun p => (hAt hs p.1).r * p.2).sum
def emptyB (hs : List Hp3) : Bool := (osets hs).any fun s => decide (numOf hs s < 0)
theorem mem_upTo {n k j : Nat} : j ∈ upTo n k ↔ k < j ∧ j < n := by
  unfold upTo
  rw [List.mem_range'_1]
  omega
/-- what stands among the sets -/
inductive OS (hs : List Hp3) : List Nat × List Int → Prop where
  | two (i j : Nat) (a b : Int) (h1 : i < j) (h2 : j < hs.length) (h : oppW (hAt hs i) (hAt hs j) = some (a, b)) : OS hs ([i, j], [a, b])
  | three (i j k : Nat) (a b c : Int) (h1 : i < j) (h2 : j < k) (h3 : k < hs.length) (h : triW (hAt hs i) (hAt hs j) (hAt hs k) = some (a, b, c)) : OS hs ([i, j, k], [a, b, c])
theorem mem_osets {hs : List Hp3} {s : List Nat × List Int} : s ∈ osets hs ↔ OS hs s := by
  unfold osets
  rw [List.mem_filterMap]
  constructor
  · rintro ⟨⟨ix, o⟩, hm, e⟩
    rcases List.mem_append.mp hm with h | h
    · obtain ⟨i, hi, h⟩ := List.mem_flatMap.mp h
      obtain ⟨j, hj, h⟩ := List.mem_flatMap.mp h
      have hj := mem_upTo.mp hj
      cases List.mem_singleton.mp h
      cases hw : oppW (hAt hs i) (hAt hs j) with
      | none =>
        simp [hw] at e
      | some w =>
        simp [hw] at e
        subst e
        exact .two i j w.1 w.2 hj.1 hj.2 hw
    · obtain ⟨i, hi, h⟩ := List.mem_flatMap.mp h
      obtain ⟨j, hj, h⟩ := List.mem_flatMap.mp h
      obtain ⟨k, hk, h⟩ := List.mem_flatMap.mp h
      have hj := mem_upTo.mp hj
      have hk := mem_upTo.mp hk
      cases List.mem_singleton.mp h
      cases hw : triW (hAt hs i) (hAt hs j) (hAt hs k) with
      | none =>
        simp [hw] at e
      | some w =>
        simp [hw] at e
        subst e
        exact .three i j k w.1 w.2.1 w.2.2 hj.1 hk.1 hk.2 hw
  · intro h
    cases h with
    | two i j a b h1 h2 h =>
      refine ⟨pr2 hs i j, List.mem_append_left _ (List.mem_flatMap.mpr ⟨i, by rw [List.mem_range'_1]; omega, List.mem_flatMap.mpr ⟨j, mem_upTo.mpr ⟨h1, h2⟩, List.mem_singleton.mpr rfl⟩⟩), ?_⟩
      unfold pr2
      rw [h]
      rfl
    | three i j k a b c h1 h2 h3 h =>
      refine ⟨pr3 hs i j k, List.mem_append_right _ (List.mem_flatMap.mpr ⟨i, by rw [List.mem_range'_1]; omega, List.mem_flatMap.mpr ⟨j, mem_upTo.mpr ⟨h1, by omega⟩, List.mem_flatMap.mpr ⟨k, mem_upTo.mpr ⟨h2, h3⟩, List.mem_singleton.mpr rfl⟩⟩⟩), ?_⟩
      unfold pr3
      rw [h]
      rfl
theorem num2 (hs : List Hp3) (i j : Nat) (a b : Int) : numOf hs ([i, j], [a, b]) = (hAt hs i).r * a + (hAt hs j).r * b := by
  show (hAt hs i).r * a + ((hAt hs j).r * b + 0) = _
  omega
theorem num3 (hs : List Hp3) (i j k : Nat) (a b c : Int) : numOf hs ([i, j, k], [a, b, c]) = (hAt hs i).r * a + (hAt hs j).r * b + (hAt hs k).r * c := by
  show (hAt hs i).r * a + ((hAt hs j).r * b + ((hAt hs k).r * c + 0)) = _
  omega
theorem cast_neg {z : Int} (h : z < 0) : (z : Rat) < 0 := Rat.intCast_neg_iff.mpr h
theorem cast_pos {z : Int} (h : 0 < z) : (0 : Rat) < (z : Rat) := Rat.intCast_pos.mpr h
/-- a negative sum: no ray -/
theorem os_neg {hs : List Hp3} {s : List Nat × List Int} (h : OS hs s) (hn : numOf hs s < 0) (x : Ray) : ¬ Rg hs x := fun hx => by
  have hn' := cast_neg hn
  cases h with
  | two i j a b h1 h2 h =>
    obtain ⟨_, _, pa, pb, _⟩ := oppW_some h
    obtain ⟨e1, e2⟩ := oppW_dep h
    rw [num2, Rat.intCast_add, castI, castI] at hn'
    have a1 := mul_le (hx _ (hAt_mem (show i < hs.length by omega))) (Rat.le_of_lt (cast_pos pa))
    have a2 := mul_le (hx _ (hAt_mem (show j < hs.length by omega))) (Rat.le_of_lt (cast_pos pb))
    unfold valH at a1 a2
    generalize (a : Rat) = a at *
    generalize (b : Rat) = b at *
    have e3 : a * (((hAt hs i).p : Rat) * x.1 + ((hAt hs i).q : Rat) * x.2) + b * (((hAt hs j).p : Rat) * x.1 + ((hAt hs j).q : Rat) * x.2) = 0 := by
      have : a * (((hAt hs i).p : Rat) * x.1 + ((hAt hs i).q : Rat) * x.2) + b * (((hAt hs j).p : Rat) * x.1 + ((hAt hs j).q : Rat) * x.2) = (a * ((hAt hs i).p : Rat) + b * ((hAt hs j).p : Rat)) * x.1 + (a * ((hAt hs i).q : Rat) + b * ((hAt hs j).q : Rat)) * x.2 := by grind
      rw [this, e1, e2]
      grind
    grind
  | three i j k a b c h1 h2 h3 h =>
    obtain ⟨pa, pb, pc, _⟩ := triW_some h
    obtain ⟨e1, e2⟩ := triW_dep h
    rw [num3, Rat.intCast_add, Rat.intCast_add, castI, castI, castI] at hn'
    have a1 := mul_le (hx _ (hAt_mem (show i < hs.length by omega))) (Rat.le_of_lt (cast_pos pa))
    have a2 := mul_le (hx _ (hAt_mem (show j < hs.length by omega))) (Rat.le_of_lt (cast_pos pb))
    have a3 := mul_le (hx _ (hAt_mem (show k < hs.length by omega))) (Rat.le_of_lt (cast_pos pc))
    unfold valH at a1 a2 a3
    generalize (a : Rat) = a at *
    generalize (b : Rat) = b at *
    generalize (c : Rat) = c at *
    have e3 : a * (((hAt hs i).p : Rat) * x.1 + ((hAt hs i).q : Rat) * x.2) + b * (((hAt hs j).p : Rat) * x.1 + ((hAt hs j).q : Rat) * x.2) + c * (((hAt hs k).p : Rat) * x.1 + ((hAt hs k).q : Rat) * x.2) = 0 := by
      have : a * (((hAt hs i).p : Rat) * x.1 + ((hAt hs i).q : Rat) * x.2) + b * (((hAt hs j).p : Rat) * x.1 + ((hAt hs j).q : Rat) * x.2) + c * (((hAt hs k).p : Rat) * x.1 + ((hAt hs k).q : Rat) * x.2) = (a * ((hAt hs i).p : Rat) + b * ((hAt hs j).p : Rat) + c * ((hAt hs k).p : Rat)) * x.1 + (a * ((hAt hs i).q : Rat) + b * ((hAt hs j).q : Rat) + c * ((hAt hs k).q : Rat)) * x.2 := by grind
      rw [this, e1, e2]
      grind
    grind
/-! certificates and places -/
theorem C2.symm {g k : Hp3} : C2 g k → C2 k g := fun ⟨t, ht, e1, e2, dg, hn⟩ => by
  have ti : 0 < 1 / t := by
    rw [Rat.div_def]
    exact Rat.mul_pos (by decide) (Rat.inv_pos.mpr ht)
  refine ⟨1 / t, ti, by grind, by grind, fun ⟨a, b⟩ => ?_, ?_⟩
  · rw [a] at e1
    rw [b] at e2
    have z : ((0 : Int) : Rat) = 0 := rfl
    refine dg ⟨Rat.intCast_eq_zero_iff.mp ?_, Rat.intCast_eq_zero_iff.mp ?_⟩
    · grind
    · grind
  · have w := mul_lt ti hn
    have : 1 / t * (t * (g.r : Rat) + (k.r : Rat)) = (g.r : Rat) + 1 / t * (k.r : Rat) := by grind
    rw [this] at w
    grind
where
  mul_lt {t a : Rat} (ht : 0 < t) (h : a < 0) : t * a < 0 := by
    have := Rat.mul_pos ht (show 0 < -a by grind)
    grind
theorem C2.opp {g k : Hp3} (h : C2 g k) : ∃ a b, oppW g k = some (a, b) ∧ (g.r * a + k.r * b : Int) < 0 := by
  obtain ⟨t, ht, e1, e2, dg, hn⟩ := h
  have z : ((0 : Int) : Rat) = 0 := rfl
  have h0 : dt g k = 0 := Rat.intCast_inj.mp (by rw [dt_cast, e1, e2, z]; grind)
  have hpos := dg.pos
  have h1 : dotI g k < 0 := Rat.intCast_neg_iff.mp (by
    have : (dotI g k : Rat) = -(t * (dotI g g : Rat)) := by
      rw [dot_cast, dot_cast, e1, e2]
      grind
    rw [this]
    have := Rat.mul_pos ht hpos
    grind)
  have hw : ∃ w, oppW g k = some w := by
    unfold oppW
    rw [if_neg (by omega)]
    exact ⟨_, rfl⟩
  obtain ⟨⟨a, b⟩, hw⟩ := hw
  obtain ⟨_, _, pa, pb, d, hd, ea, eb⟩ := oppW_some hw
  have en := opp_n1 ht e1 e2
  rw [← ea, ← eb, castI, castI] at en
  have hd' := cast_pos hd
  have pb' := cast_pos pb
  refine ⟨a, b, hw, Rat.intCast_neg_iff.mp ?_⟩
  rw [Rat.intCast_add, castI, castI]
  have eab : (a : Rat) = t * (b : Rat) := mul_cancel_r (show (d : Rat) ≠ 0 by grind) (by grind)
  rw [eab]
  have w := C2.symm.mul_lt pb' hn
  grind
theorem C3.perm1 {g k l : Hp3} : C3 g k l → C3 k g l := fun ⟨a, b, c, pa, pb, pc, e1, e2, hn, nd⟩ => ⟨b, a, c, pb, pa, pc, by grind, by grind, by grind, by rw [dt_swap]; omega⟩
theorem C3.nd {g k l : Hp3} : C3 g k l → dt k l ≠ 0 := fun ⟨a, b, c, pa, pb, pc, e1, e2, hn, nd⟩ z => by
  have h1 := dt_cast g k
  have h2 := dt_cast k l
  rw [z] at h2
  have z0 : ((0 : Int) : Rat) = 0 := rfl
  have nd' : (dt g k : Rat) ≠ 0 := fun y => nd (Rat.intCast_eq_zero_iff.mp y)
  rw [h1] at nd'
  -- cross with k: a dt(g, k) = c dt(k, l)
  have : a * ((g.p : Rat) * (k.q : Rat) - (g.q : Rat) * (k.p : Rat)) = 0 := by grind
  grind
theorem C3.perm2 {g k l : Hp3} (h : C3 g k l) : C3 k l g := by
  have nd := h.nd
  obtain ⟨a, b, c, pa, pb, pc, e1, e2, hn, _⟩ := h
  exact ⟨b, c, a, pb, pc, pa, by grind, by grind, by grind, nd⟩
theorem C3.tri {g k l : Hp3} (h : C3 g k l) : ∃ a b c, triW g k l = some (a, b, c) ∧ (g.r * a + k.r * b + l.r * c : Int) < 0 := by
  have nkl := h.nd
  have nlg := h.perm2.nd
  obtain ⟨a, b, c, pa, pb, pc, e1, e2, hn, nd⟩ := h
  have h1 := dt_cast g k
  have h2 := dt_cast k l
  have h3 := dt_cast l g
  -- the weights go with the determinants
  have f1 : b * (dt k l : Rat) = a * (dt l g : Rat) := by rw [h2, h3]; grind
  have f2 : c * (dt k l : Rat) = a * (dt g k : Rat) := by rw [h1, h2]; grind
  have nkl' : (dt k l : Rat) ≠ 0 := fun y => nkl (Rat.intCast_eq_zero_iff.mp y)
  have fb : (dt l g : Rat) = b / a * (dt k l : Rat) := by grind
  have fc : (dt g k : Rat) = c / a * (dt k l : Rat) := by grind
  have pb' : 0 < b / a := by
    rw [Rat.div_def]
    exact Rat.mul_pos pb (Rat.inv_pos.mpr pa)
  have pc' : 0 < c / a := by
    rw [Rat.div_def]
    exact Rat.mul_pos pc (Rat.inv_pos.mpr pa)
  have hw : ∃ w, triW g k l = some w := by
    unfold triW
    rw [if_neg ?_]
    · exact ⟨_, rfl⟩
    · unfold w3
      by_cases s : dt k l < 0
      · rw [if_pos s]
        have s' := cast_neg s
        have u1 := Rat.mul_pos pb' (show 0 < -(dt k l : Rat) by grind)
        have u2 := Rat.mul_pos pc' (show 0 < -(dt k l : Rat) by grind)
        have v1 : dt l g < 0 := Rat.intCast_neg_iff.mp (by rw [fb]; grind)
        have v2 : dt g k < 0 := Rat.intCast_neg_iff.mp (by rw [fc]; grind)
        dsimp only
        omega
      · rw [if_neg s]
        have s2 : 0 < dt k l := by omega
        have s' := cast_pos s2
        have v1 : 0 < dt l g := Rat.intCast_pos.mp (by rw [fb]; exact Rat.mul_pos pb' s')
        have v2 : 0 < dt g k := Rat.intCast_pos.mp (by rw [fc]; exact Rat.mul_pos pc' s')
        dsimp only
        omega
  obtain ⟨⟨x, y, z⟩, hw⟩ := hw
  obtain ⟨px, py, pz, d, hd, ex, ey, ez⟩ := triW_some hw
  refine ⟨x, y, z, hw, Rat.intCast_neg_iff.mp ?_⟩
  have gx : (x : Rat) * (d : Rat) = (dt k l : Rat) := by rw [← castI, ex]
  have gy : (y : Rat) * (d : Rat) = (dt l g : Rat) := by rw [← castI, ey]
  have gz : (z : Rat) * (d : Rat) = (dt g k : Rat) := by rw [← castI, ez]
  have hd' : (d : Rat) ≠ 0 := fun y => hd (Rat.intCast_eq_zero_iff.mp y)
  have px' := cast_pos px
  have hy : (y : Rat) = b / a * (x : Rat) := mul_cancel_r hd' (by rw [gy, fb, ← gx]; grind)
  have hz : (z : Rat) = c / a * (x : Rat) := mul_cancel_r hd' (by rw [gz, fc, ← gx]; grind)
  rw [Rat.intCast_add, Rat.intCast_add, castI, castI, castI, hy, hz]
  have w := C2.symm.mul_lt (Rat.mul_pos px' (show 0 < 1 / a by rw [Rat.div_def]; exact Rat.mul_pos (by decide) (Rat.inv_pos.mpr pa))) hn
  have e : (x : Rat) * (1 / a) * (a * (g.r : Rat) + b * (k.r : Rat) + c * (l.r : Rat)) = (g.r : Rat) * (x : Rat) + (k.r : Rat) * (b / a * (x : Rat)) + (l.r : Rat) * (c / a * (x : Rat)) := by grind
  rw [← e]
  exact w
theorem mem_at {hs : List Hp3} {g : Hp3} (h : g ∈ hs) : ∃ i, i < hs.length ∧ hAt hs i = g := by
  obtain ⟨i, hi⟩ := List.getElem?_of_mem h
  have hl := (List.getElem?_eq_some_iff.mp hi).1
  exact ⟨i, hl, by rw [hAt_get hl] at hi; exact Option.some.inj hi⟩
/-- a region without rays has a negative set -/
theorem emptyB_iff {hs : List Hp3} (hd : ∀ g ∈ hs, Dir g) : emptyB hs = true ↔ ¬ ∃ x, Rg hs x := by
  unfold emptyB
  rw [List.any_eq_true]
  constructor
  · rintro ⟨s, hs', hn⟩ ⟨x, hx⟩
    exact os_neg (mem_osets.mp hs') (of_decide_eq_true hn) x hx
  · intro hno
    have two : ∀ i j, i < j → j < hs.length → C2 (hAt hs i) (hAt hs j) → ∃ s, s ∈ osets hs ∧ decide (numOf hs s < 0) = true := fun i j hij hj h => by
      obtain ⟨a, b, hw, hn⟩ := h.opp
      exact ⟨_, mem_osets.mpr (.two i j a b hij hj hw), decide_eq_true (by rw [num2]; exact hn)⟩
    have three : ∀ i j k, i < j → j < k → k < hs.length → C3 (hAt hs i) (hAt hs j) (hAt hs k) → ∃ s, s ∈ osets hs ∧ decide (numOf hs s < 0) = true := fun i j k hij hjk hk h => by
      obtain ⟨a, b, c, hw, hn⟩ := h.tri
      exact ⟨_, mem_osets.mpr (.three i j k a b c hij hjk hk hw), decide_eq_true (by rw [num3]; exact hn)⟩
    rcases helly hd with h | ⟨g, hg, k, hk, h⟩ | ⟨g, hg, k, hk, l, hl, h⟩
    · exact (hno h).elim
    · obtain ⟨i, hi, rfl⟩ := mem_at hg
      obtain ⟨j, hj, rfl⟩ := mem_at hk
      rcases Nat.lt_trichotomy i j with z | z | z
      · exact two i j z hj h
      · subst z
        obtain ⟨t, ht, e1, e2, dg, _⟩ := h
        have := dg.rat
        refine (this ⟨?_, ?_⟩).elim
        · have : (1 + t) * ((hAt hs i).p : Rat) = 0 := by grind
          exact (Rat.mul_eq_zero.mp this).resolve_left (by grind)
        · have : (1 + t) * ((hAt hs i).q : Rat) = 0 := by grind
          exact (Rat.mul_eq_zero.mp this).resolve_left (by grind)
      · exact two j i z hi h.symm
    · obtain ⟨i, hi, rfl⟩ := mem_at hg
      obtain ⟨j, hj, rfl⟩ := mem_at hk
      obtain ⟨k, hk', rfl⟩ := mem_at hl
      have dd : ∀ g : Hp3, dt g g = 0 := fun g => by unfold dt; grind
      have nij : i ≠ j := fun z => by
        obtain ⟨a, b, c, pa, pb, pc, e1, e2, hn, nd⟩ := h
        rw [z] at nd
        exact nd (dd _)
      have njk : j ≠ k := fun z => by
        have := h.nd
        rw [z] at this
        exact this (dd _)
      have nki : k ≠ i := fun z => by
        have := h.perm2.nd
        rw [z] at this
        exact this (dd _)
      rcases Nat.lt_or_gt_of_ne nij with a | a <;> rcases Nat.lt_or_gt_of_ne njk with b | b <;> rcases Nat.lt_or_gt_of_ne nki with c | c
      · omega
      · exact three i j k a b hk' h
      · exact three k i j c a hj h.perm2.perm2
      · exact three i k j c b hj h.perm2.perm2.perm1
      · exact three j k i b c hi h.perm2
      · exact three j i k a c hk' h.perm1
      · exact three k j i b a hi h.perm2.perm1
      · omega
end PG

set_option maxRecDepth 100000
set_option maxHeartbeats 4000000
namespace PG
open PySem PySem.Spec PyProof.Rows L2 RT
theorem rangeD_map : ∀ (n k : Nat), rangeD (k : Int) n = (List.range' k n).map fun i : Nat => Dt.int (i : Int)
  | 0, _ => rfl
  | n + 1, k => by
    rw [List.range'_succ, List.map_cons, ← rangeD_map n (k + 1)]
    rfl
theorem zipD_map {α β : Type} (f : α → Dt) (g : β → Dt) : ∀ (xs : List α) (ys : List β), zipD (xs.map f) (ys.map g) = (xs.zip ys).map fun p => Dt.tup [f p.1, g p.2]
  | [], _ => by cases ‹List β› <;> rfl
  | _ :: _, [] => rfl
  | x :: xs, y :: ys => by
    rw [List.zip_cons_cons, List.map_cons, List.map_cons, List.map_cons, ← zipD_map f g xs ys]
    rfl
theorem sumI_map : ∀ xs : List Int, sumI (xs.map .int) = some xs.sum
  | [] => rfl
  | x :: xs => by
    rw [List.map_cons, List.sum_cons]
    show (sumI (xs.map .int)).map (x + ·) = _
    rw [sumI_map xs]
    rfl
/-! sizes of the weights -/
theorem lgn1 {n : Nat} {g : Hp3} (h : HZ n g) : (n1 g).natAbs.log2 + 1 ≤ n := by
  unfold n1
  have := lga (a := ab g.p) (b := ab g.q) (n := n - 2) (by rw [ab_nat, Int.natAbs_natCast]; have := h.1; omega) (by rw [ab_nat, Int.natAbs_natCast]; have := h.2.1; omega)
  have := h.1
  omega
theorem lg_div {a d w : Int} (h : w * d = a) (hd : d ≠ 0) : w.natAbs.log2 ≤ a.natAbs.log2 := by
  refine log2_mono ?_
  rw [← h, Int.natAbs_mul]
  exact Nat.le_mul_of_pos_right _ (by omega)
theorem os_z {n : Nat} {hs : List Hp3} (hg : ∀ g ∈ hs, HZ n g) {s : List Nat × List Int} (h : OS hs s) : (∀ i ∈ s.1, i < hs.length) ∧ (∀ w ∈ s.2, w.natAbs.log2 + 2 ≤ 2 * n) ∧ s.1.length = s.2.length ∧ s.1.length ≤ 3 := by
  cases h with
  | two i j a b h1 h2 h =>
    obtain ⟨_, _, pa, pb, d, hd, ea, eb⟩ := oppW_some h
    have z1 := hg _ (hAt_mem (show i < hs.length by omega))
    have z2 := hg _ (hAt_mem h2)
    have w1 := lgn1 z1
    have w2 := lgn1 z2
    have u1 := lg_div ea (by omega)
    have u2 := lg_div eb (by omega)
    have := z1.1
    refine ⟨fun k hk => ?_, fun w hw => ?_, rfl, Nat.le_of_ble_eq_true rfl⟩
    · simp at hk
      omega
    · simp at hw
      rcases hw with rfl | rfl <;> omega
  | three i j k a b c h1 h2 h3 h =>
    obtain ⟨pa, pb, pc, d, hd, ea, eb, ec⟩ := triW_some h
    have z1 := hg _ (hAt_mem (show i < hs.length by omega))
    have z2 := hg _ (hAt_mem (show j < hs.length by omega))
    have z3 := hg _ (hAt_mem h3)
    have d1 := dt_z z2 z3
    have d2 := dt_z z3 z1
    have d3 := dt_z z1 z2
    have u1 := lg_div ea hd
    have u2 := lg_div eb hd
    have u3 := lg_div ec hd
    refine ⟨fun k hk => ?_, fun w hw => ?_, rfl, Nat.le_of_ble_eq_true rfl⟩
    · simp at hk
      omega
    · simp at hw
      rcases hw with rfl | rfl | rfl <;> omega
/-- the first certificate -/
def ecert (hs : List Hp3) : Option (List (Int × Rat)) := ((osets hs).find? fun s => decide (numOf hs s < 0)).map fun s => (s.1.zip s.2).map fun p => ((p.1 : Int), (p.2 : Rat))
abbrev Crt := List (Int × Rat)
def prD (p : Int × Rat) : Dt := .tup [.int p.1, fr p.2]
def crtD (c : Crt) : Dt := .lst (c.map prD)
def ocrtD : Option Crt → Dt
  | none => .non
  | some c => crtD c
abbrev R3 := Rat × Rat × Rat
def r3D (t : R3) : Dt := .tup [fr t.1, fr t.2.1, fr t.2.2]
def sumStep (hs : List Hp3) (t : R3) (p : Int × Rat) : R3 := (t.1 + p.2 * ((hAt hs p.1.toNat).p : Rat), t.2.1 + p.2 * ((hAt hs p.1.toNat).q : Rat), t.2.2 + p.2 * ((hAt hs p.1.toNat).r : Rat))
def sumC (hs : List Hp3) (c : Crt) : R3 := c.foldl (sumStep hs) (0, 0, 0)
def ascC : List Int → Bool
  | a :: b :: r => decide (a < b) && ascC (b :: r)
  | _ => true
def okC (hs : List Hp3) (p : Int × Rat) : Bool := decide (0 ≤ p.1) && decide (p.1 < hs.length) && decide (0 < p.2)
def fineC (hs : List Hp3) (c : Crt) : Bool := ascC (c.map (·.1)) && c.all (okC hs)
def verE (hs : List Hp3) (c : Crt) : Bool := fineC hs c && (decide ((sumC hs c).1 = 0) && (decide ((sumC hs c).2.1 = 0) && decide ((sumC hs c).2.2 < 0)))
section
variable {st : List Cell} {Q : Vl → List Cell → Prop} {hs : List Hp3} {n : Nat}
theorem number_ok {s : List Nat × List Int} (hg : ∀ g ∈ hs, HZ n g) (hn : n ≤ 10000000) (h : OS hs s) (hq : Q (.d (.int (numOf hs s))) st) : sp_number_of [.d (.lst (hs.map hpD)), .d (ixD s.1), .d (wsD s.2)] st Q := by
  obtain ⟨z1, z2, z3, z4⟩ := os_z hg h
  unfold sp_number_of
  refine ⟨rfl, ?_⟩
  show dLcGo _ _ (.tp [3, 4]) dYes _ (zipD (s.1.map fun i : Nat => Dt.int (i : Int)) (s.2.map .int)) none _ (zipD (s.1.map fun i : Nat => Dt.int (i : Int)) (s.2.map .int)) [] _
  rw [zipD_map]
  refine lc_map (fun p : Nat × Int => Dt.tup [.int (p.1 : Int), .int p.2]) (fun p => Dt.int ((hAt hs p.1).r * p.2)) (done := []) (fun p hp C hC => ?_) ?_ ?_
  · obtain ⟨hp1, hp2⟩ := List.of_mem_zip hp
    have hi := z1 _ hp1
    refine ⟨rfl, ?_⟩
    refine rIx_mk (atI_map (f := hpD) (hAt_get hi)) ?_
    have y1 := (hg _ (hAt_mem hi)).2.2
    have y2 := z2 _ hp2
    exact ⟨mulok (zm (by omega)), hC _⟩
  · rw [List.length_nil, List.length_zip]
    omega
  · rw [List.nil_append]
    have e : (s.1.zip s.2).map (fun p => Dt.int ((hAt hs p.1).r * p.2)) = ((s.1.zip s.2).map fun p => (hAt hs p.1).r * p.2).map .int := by rw [List.map_map]; rfl
    rw [e]
    show match sumI (((s.1.zip s.2).map fun p => (hAt hs p.1).r * p.2).map .int) with | some n => _ | none => False
    rw [sumI_map]
    exact tk hq
theorem empty_ok (hg : ∀ g ∈ hs, HZ n g) (hn : n ≤ 10000000) (hl : hs.length ≤ 45) (h : Q (.d (.bl (emptyB hs))) st) : sp_is_empty [.d (.lst (hs.map hpD))] st Q := by
  unfold sp_is_empty
  refine ⟨rfl, osets_ok hg hn hl ?_⟩
  refine gx_any oD (fun s => decide (numOf hs s < 0)) (fun s hs' C hC => ?_) (tk h)
  exact ⟨rfl, number_ok hg hn (mem_osets.mp hs') ⟨trivial, hC _⟩⟩
theorem ecert_ok (hg : ∀ g ∈ hs, HZ n g) (hn : n ≤ 10000000) (hl : hs.length ≤ 45) (h : Q (.d (ocrtD (ecert hs))) st) : sp_emptiness_certificate [.d (.lst (hs.map hpD))] st Q := by
  unfold sp_emptiness_certificate
  refine ⟨rfl, osets_ok hg hn hl ?_⟩
  let S : Option Vl → Option Vl → M := fun z1 z2 => ⟨[some (.d (.lst (hs.map hpD))), z1, z2, none, none], st⟩
  refine tgt_each (lk := none) oD (fun r m => (∀ s ∈ r, OS hs s) ∧ (r.find? fun s => decide (numOf hs s < 0)).map (fun s => (s.1.zip s.2).map fun p => ((p.1 : Int), (p.2 : Rat))) = ecert hs ∧ ∃ z1 z2, m = S z1 z2) (fun _ _ _ => trivial) ?_ ?_ _ _ ⟨fun s hs' => mem_osets.mp hs', rfl, none, none, rfl⟩
  · rintro s r _ K hK ⟨hr, he, z1, z2, rfl⟩
    refine ⟨rfl, ?_⟩
    refine number_ok hg hn (hr s List.mem_cons_self) ⟨trivial, ifd (fun hneg => ?_) fun hneg => ?_⟩
    · rw [List.find?_cons_of_pos (by simpa using hneg)] at he
      rw [← he] at h
      obtain ⟨y1, y2, y3, y4⟩ := os_z hg (hr s List.mem_cons_self)
      show dLcGo _ _ (.tp [3, 4]) dYes _ (zipD (s.1.map fun i : Nat => Dt.int (i : Int)) (s.2.map .int)) none _ (zipD (s.1.map fun i : Nat => Dt.int (i : Int)) (s.2.map .int)) [] _
      rw [zipD_map]
      refine lc_map (fun p : Nat × Int => Dt.tup [.int (p.1 : Int), .int p.2]) (fun p => prD ((p.1 : Int), (p.2 : Rat))) (done := []) (fun p hp C hC => ?_) ?_ ?_
      · exact ⟨rfl, frac1_ok ⟨lineN rfl, hC _⟩⟩
      · rw [List.length_nil, List.length_zip]
        omega
      · rw [List.nil_append]
        have e : (s.1.zip s.2).map (fun p => prD ((p.1 : Int), (p.2 : Rat))) = ((s.1.zip s.2).map fun p => ((p.1 : Int), (p.2 : Rat))).map prD := by rw [List.map_map]; rfl
        rw [e]
        exact tk h
    · refine hK _ ⟨fun t ht => hr t (List.mem_cons_of_mem _ ht), ?_, some (.d (ixD s.1)), some (.d (wsD s.2)), rfl⟩
      rw [← he, List.find?_cons_of_neg (by simpa using hneg)]
  · rintro _ ⟨_, he, z1, z2, rfl⟩
    rw [← he] at h
    exact tk h
where
  tgt_each {α : Type} {g : Tgt} {b : DS} {all : List Dt} {lk : Option Nat} {E : DEnds} (f : α → Dt) (I : List α → M → Prop) (hlk : ∀ r m, I r m → lockOk lk all m)
      (hs : ∀ x r m (K : M → Prop), (∀ m', I r m' → K m') → I (x :: r) m → tgD g (.d (f x)) m fun m1 => b ⟨K, E.rt, E.nx, K⟩ m1) (hd : ∀ m, I [] m → E.nx m) :
      ∀ (xs : List α) (m : M), I xs m → dLoop g b all lk E (xs.map f) m
    | [], m, h => ⟨hlk _ _ h, hd m h⟩
    | x :: r, m, h => ⟨hlk _ _ h, hs x r m _ (fun m' h' => tgt_each f I hlk hs hd r m' h') h⟩
end
end PG

set_option maxRecDepth 100000
set_option maxHeartbeats 4000000
namespace PG
open PySem PySem.Spec PyProof.Rows L2 RT
/-- a loop over a list, the target of any form -/
theorem tgt_inv {α : Type} {g : Tgt} {b : DS} {all : List Dt} {lk : Option Nat} {E : DEnds} (f : α → Dt) (I : List α → M → Prop) (hlk : ∀ r m, I r m → lockOk lk all m)
    (hs : ∀ x r m (K : M → Prop), (∀ m', I r m' → K m') → I (x :: r) m → tgD g (.d (f x)) m fun m1 => b ⟨K, E.rt, E.nx, K⟩ m1) (hd : ∀ m, I [] m → E.nx m) :
    ∀ (xs : List α) (m : M), I xs m → dLoop g b all lk E (xs.map f) m
  | [], m, h => ⟨hlk _ _ h, hd m h⟩
  | x :: r, m, h => ⟨hlk _ _ h, hs x r m _ (fun m' h' => tgt_inv f I hlk hs hd r m' h') h⟩
def Z3 (n : Nat) (t : R3) : Prop := zb t.1 ≤ n ∧ zb t.2.1 ≤ n ∧ zb t.2.2 ≤ n
theorem zb0 : zb 0 = 2 := by decide +kernel
theorem step_z {hs : List Hp3} {n k : Nat} {t : R3} {p : Int × Rat} (hg : HZ n (hAt hs p.1.toNat)) (hp : zb p.2 ≤ n) (ht : Z3 k t) : Z3 (k + 2 * n) (sumStep hs t p) := by
  obtain ⟨t1, t2, t3⟩ := ht
  obtain ⟨g1, g2, g3⟩ := hg
  have a1 := zb_int (hAt hs p.1.toNat).p
  have a2 := zb_int (hAt hs p.1.toNat).q
  have a3 := zb_int (hAt hs p.1.toNat).r
  have b1 := zb_mul p.2 ((hAt hs p.1.toNat).p : Rat)
  have b2 := zb_mul p.2 ((hAt hs p.1.toNat).q : Rat)
  have b3 := zb_mul p.2 ((hAt hs p.1.toNat).r : Rat)
  have c1 := zb_add t.1 (p.2 * ((hAt hs p.1.toNat).p : Rat))
  have c2 := zb_add t.2.1 (p.2 * ((hAt hs p.1.toNat).q : Rat))
  have c3 := zb_add t.2.2 (p.2 * ((hAt hs p.1.toNat).r : Rat))
  unfold sumStep
  exact ⟨by dsimp only; omega, by dsimp only; omega, by dsimp only; omega⟩
theorem sum_z {hs : List Hp3} {n : Nat} (hg : ∀ g ∈ hs, HZ n g) : ∀ {c : Crt} {k : Nat} {t : R3}, (∀ p ∈ c, 0 ≤ p.1 ∧ p.1 < hs.length ∧ zb p.2 ≤ n) → Z3 k t → Z3 (k + 2 * n * c.length) (c.foldl (sumStep hs) t)
  | [], k, t, _, ht => by simpa using ht
  | p :: c, k, t, hc, ht => by
    obtain ⟨p0, p1, p2⟩ := hc p List.mem_cons_self
    have := sum_z hg (c := c) (fun q hq => hc q (List.mem_cons_of_mem _ hq)) (step_z (hg _ (hAt_mem (show p.1.toNat < hs.length by omega))) p2 ht)
    rw [List.length_cons, Nat.mul_succ]
    have e : k + 2 * n + 2 * n * c.length = k + (2 * n * c.length + 2 * n) := by omega
    rw [e] at this
    exact this
section
variable {st : List Cell} {Q : Vl → List Cell → Prop} {hs : List Hp3} {n : Nat}
theorem sum_ok {c : Crt} (hg : ∀ g ∈ hs, HZ n g) (hn : n ≤ 100000) (hc : ∀ p ∈ c, 0 ≤ p.1 ∧ p.1 < hs.length ∧ zb p.2 ≤ n) (hl : c.length ≤ 50) (h : Q (.d (r3D (sumC hs c))) st) : sp_sum_of [.d (.lst (hs.map hpD)), .d (crtD c)] st Q := by
  unfold sp_sum_of
  refine ⟨rfl, ?_⟩
  let S : R3 → Option Vl → Option Vl → Option Vl → M := fun t z3 z4 z5 => ⟨[some (.d (.lst (hs.map hpD))), some (.d (crtD c)), some (.d (r3D t)), z3, z4, z5, none, none, none], st⟩
  refine seq_to (S (0, 0, 0) none none none) (fun K hK => ⟨lineN rfl, hK⟩) ?_
  refine seq_mid (fun m => ∃ z3 z4 z5, m = S (sumC hs c) z3 z4 z5) (fun K hK => ?_) ?_
  · refine tgt_inv (lk := none) prD (fun r m => ∃ done, c = done ++ r ∧ ∃ z3 z4 z5, m = S (done.foldl (sumStep hs) (0, 0, 0)) z3 z4 z5) (fun _ _ _ => trivial) ?_ ?_ c _ ⟨[], rfl, none, none, none, rfl⟩
    · rintro p r _ K2 hK2 ⟨done, e1, z3, z4, z5, rfl⟩
      have hm : p ∈ c := by rw [e1]; exact List.mem_append_right _ List.mem_cons_self
      have hlen : done.length + 1 ≤ 50 := by
        have : c.length = done.length + (r.length + 1) := by rw [e1, List.length_append, List.length_cons]
        omega
      obtain ⟨p0, p1, p2⟩ := hc p hm
      have hi : p.1.toNat < hs.length := by omega
      have ei : p.1 = ((p.1.toNat : Nat) : Int) := by omega
      have zt : Z3 (2 + 2 * n * done.length) (done.foldl (sumStep hs) (0, 0, 0)) := sum_z hg (fun q hq => hc q (by rw [e1]; exact List.mem_append_left _ hq)) ⟨Nat.le_of_eq zb0, Nat.le_of_eq zb0, Nat.le_of_eq zb0⟩
      obtain ⟨g1, g2, g3⟩ := hg _ (hAt_mem hi)
      have a1 := zb_int (hAt hs p.1.toNat).p
      have a2 := zb_int (hAt hs p.1.toNat).q
      have a3 := zb_int (hAt hs p.1.toNat).r
      have b1 := zb_mul p.2 ((hAt hs p.1.toNat).p : Rat)
      have b2 := zb_mul p.2 ((hAt hs p.1.toNat).q : Rat)
      have b3 := zb_mul p.2 ((hAt hs p.1.toNat).r : Rat)
      have hbig : 2 * n * done.length ≤ 2 * 100000 * 50 := Nat.mul_le_mul (Nat.mul_le_mul_left _ hn) (by omega)
      obtain ⟨t, et⟩ : ∃ t, done.foldl (sumStep hs) (0, 0, 0) = t := ⟨_, rfl⟩
      rw [et] at zt ⊢
      obtain ⟨t1, t2, t3⟩ := zt
      refine ⟨rfl, ?_⟩
      let T : Option Vl → R3 → M := fun z5 t' => ⟨[some (.d (.lst (hs.map hpD))), some (.d (crtD c)), some (.d (r3D t')), some (.d (.int p.1)), some (.d (fr p.2)), z5, none, none, none], st⟩
      refine seq_to (T (some (.d (.lst [fr (p.2 * ((hAt hs p.1.toNat).p : Rat)), fr (p.2 * ((hAt hs p.1.toNat).q : Rat)), fr (p.2 * ((hAt hs p.1.toNat).r : Rat))]))) t) (fun K hK => ?_) ?_
      · have at_ : atI (hs.map hpD) p.1 = some (hpD (hAt hs p.1.toNat)) := by rw [ei]; exact atI_map (f := hpD) (hAt_get hi)
        refine rIx_mk at_ ?_
        refine lc_map (fun z : Int => Dt.int z) (fun z => fr (p.2 * (z : Rat))) (xs := [(hAt hs p.1.toNat).p, (hAt hs p.1.toNat).q, (hAt hs p.1.toNat).r]) (done := []) (fun z hz C hC => ?_) (Nat.le_of_ble_eq_true rfl) hK
        refine frac1_ok ?_
        refine multiply_ok (zm ?_) (hC _)
        simp at hz
        rcases hz with rfl | rfl | rfl <;> omega
      refine seq_to' (T (some (.d (.lst [fr (p.2 * ((hAt hs p.1.toNat).p : Rat)), fr (p.2 * ((hAt hs p.1.toNat).q : Rat)), fr (p.2 * ((hAt hs p.1.toNat).r : Rat))]))) (sumStep hs t p)) (fun K hK => ?_) ?_
      · refine lc_map (fun z : Rat × Rat => Dt.tup [fr z.1, fr z.2]) (fun z => fr (z.1 + z.2)) (xs := [(t.1, p.2 * ((hAt hs p.1.toNat).p : Rat)), (t.2.1, p.2 * ((hAt hs p.1.toNat).q : Rat)), (t.2.2, p.2 * ((hAt hs p.1.toNat).r : Rat))]) (done := []) (fun z hz C hC => ?_) (Nat.le_of_ble_eq_true rfl) ?_
        · refine ⟨rfl, ?_⟩
          refine add_ok (zm ?_) (hC _)
          simp at hz
          rcases hz with rfl | rfl | rfl <;> (dsimp only; omega)
        · exact hK
      · refine hK2 _ ⟨done ++ [p], by rw [e1, List.append_assoc]; rfl, some (.d (.int p.1)), some (.d (fr p.2)), some (.d (.lst [fr (p.2 * ((hAt hs p.1.toNat).p : Rat)), fr (p.2 * ((hAt hs p.1.toNat).q : Rat)), fr (p.2 * ((hAt hs p.1.toNat).r : Rat))])), ?_⟩
        rw [List.foldl_append, et]
        rfl
    · rintro _ ⟨done, e1, z3, z4, z5, rfl⟩
      rw [List.append_nil] at e1
      rw [← e1]
      exact hK _ ⟨_, _, _, rfl⟩
  rintro _ ⟨z3, z4, z5, rfl⟩
  exact tk h
where
  seq_to' {a : DS} {E : DEnds} {m : M} (m' : M) (h1 : ∀ K : M → Prop, K m' → a ⟨K, E.rt, E.bk, E.ct⟩ m) (h2 : E.nx m') : a E m := h1 _ h2
theorem ge_any : ∀ (ix : List Int), ((List.range' 0 (ix.length - 1)).any fun k => decide (ix.getD (k + 1) 0 ≤ ix.getD k 0)) = !ascC ix
  | [] => rfl
  | [_] => rfl
  | a :: b :: r => by
    have ih := ge_any (b :: r)
    show ((List.range' 0 (r.length + 1)).any fun k => decide ((a :: b :: r).getD (k + 1) 0 ≤ (a :: b :: r).getD k 0)) = !(decide (a < b) && ascC (b :: r))
    rw [List.range'_succ, List.any_cons, Bool.not_and, ← ih]
    have e1 : decide ((a :: b :: r).getD (0 + 1) 0 ≤ (a :: b :: r).getD 0 0) = !decide (a < b) := by
      rw [← decide_not]
      refine decide_eq_decide.mpr ?_
      show b ≤ a ↔ _
      omega
    rw [e1]
    congr 1
    show (List.range' (0 + 1) r.length).any _ = (List.range' 0 r.length).any _
    rw [List.range'_eq_map_range, List.range'_eq_map_range, List.any_map, List.any_map]
    congr 1
    funext k
    show decide ((a :: b :: r).getD (0 + 1 + k + 1) 0 ≤ (a :: b :: r).getD (0 + 1 + k) 0) = decide ((b :: r).getD (0 + k + 1) 0 ≤ (b :: r).getD (0 + k) 0)
    rw [show 0 + 1 + k + 1 = (0 + k + 1) + 1 by omega, show 0 + 1 + k = (0 + k) + 1 by omega]
    rfl
theorem iscert_ok {c : Crt} (hh : hs.length ≤ 1000) (hl : c.length ≤ 1000) (h : Q (.d (.bl (fineC hs c))) st) : sp_is_certificate [.d (.lst (hs.map hpD)), .d (crtD c)] st Q := by
  unfold sp_is_certificate
  refine ⟨rfl, ?_⟩
  let S : M := ⟨[some (.d (.lst (hs.map hpD))), some (.d (crtD c)), some (.d (.lst ((c.map (·.1)).map .int))), none, none, none], st⟩
  obtain ⟨ix, eix⟩ : ∃ ix, c.map (·.1) = ix := ⟨_, rfl⟩
  have hix : ix.length ≤ 1000 := by rw [← eix, List.length_map]; exact hl
  refine seq_to S (fun K hK => ?_) ?_
  · refine dlc_map prD (fun p => Dt.int p.1) (xs := c) (fun K2 h2 => ?_) (fun x hx C hC => ?_) (by omega) ?_
    · exact h2
    · exact ⟨rfl, hC _⟩
    · have e : c.map (fun p => Dt.int p.1) = (c.map (·.1)).map .int := by rw [List.map_map]; rfl
      rw [e]
      exact hK
  have cnd : ∀ K : Bool → M → Prop, K (!ascC ix) S → dTru (dGx false (dRange1 (dCons (dOp rSub (dBi bLen (dCons (dVar 2) dNil)) (dC (.int 1))) dNil)) (.nm 5) (dOp rGe (dOp RT.rIx (dVar 2) (dVar 5)) (dOp RT.rIx (dVar 2) (dOp rAddA (dVar 5) (dC (.int 1))))) [5]) S K := fun K hK => by
    refine ⟨trivial, ?_⟩
    show small62 ((((c.map (·.1)).map Dt.int).length : Int) - 1) ∧ dGxGo false _ _ (.nm 5) _ (rangeD 0 ((((c.map (·.1)).map Dt.int).length : Int) - 1).toNat) none _ (rangeD 0 ((((c.map (·.1)).map Dt.int).length : Int) - 1).toNat) _
    rw [eix, List.length_map]
    refine ⟨⟨by omega, by omega⟩, ?_⟩
    have er : rangeD 0 (((ix.length : Nat) : Int) - 1).toNat = (List.range' 0 (ix.length - 1)).map fun i : Nat => Dt.int (i : Int) := by
      have := rangeD_map (ix.length - 1) 0
      rw [← this]
      congr 1
      omega
    rw [er]
    refine gx_any (fun i : Nat => Dt.int (i : Int)) (fun k => decide (ix.getD (k + 1) 0 ≤ ix.getD k 0)) (fun k hk C hC => ?_) ?_
    · have hk2 := (List.mem_range'_1.mp hk).2
      have g1 : atI ((c.map (·.1)).map Dt.int) (k : Int) = some (.int (ix.getD k 0)) := by
        rw [eix]
        refine atI_map (f := Dt.int) ?_
        rw [List.getD_eq_getElem?_getD, List.getElem?_eq_getElem (by omega)]
        rfl
      have g2 : atI ((c.map (·.1)).map Dt.int) ((k : Int) + 1) = some (.int (ix.getD (k + 1) 0)) := by
        rw [eix]
        refine atI_map (f := Dt.int) (k := k + 1) ?_
        rw [List.getD_eq_getElem?_getD, List.getElem?_eq_getElem (by omega)]
        rfl
      refine rIx_mk g1 ?_
      refine rIx_mk g2 ?_
      exact ⟨trivial, hC _⟩
    · rw [ge_any]
      exact hK
  cases ha : ascC ix with
  | false =>
    rw [ha] at cnd
    refine ifs_t S (fun K hK => cnd K hK) ?_
    have e : fineC hs c = false := by
      unfold fineC
      rw [eix, ha]
      rfl
    rw [e] at h
    exact tk h
  | true =>
    rw [ha] at cnd
    refine guard_st S (fun K hK => cnd K hK) ?_
    have e : fineC hs c = c.all (okC hs) := by
      unfold fineC
      rw [eix, ha, Bool.true_and]
    rw [e] at h
    refine gx_all prD (okC hs) (fun p hp C hC => ?_) (tk h)
    refine ⟨rfl, ?_⟩
    have e3 : okC hs p = (decide (0 ≤ p.1) && decide (p.1 < hs.length) && decide (0 < p.2)) := rfl
    rw [e3] at hC
    refine ifd (P := 0 ≤ p.1) (fun h0 => ?_) fun h0 => ?_
    · rw [decide_eq_true h0, Bool.true_and] at hC
      show if decide (p.1 < (((hs.map hpD).length : Nat) : Int)) = true then _ else _
      rw [List.length_map]
      refine ifd (fun h1 => ?_) fun h1 => ?_
      · rw [decide_eq_true h1, Bool.true_and] at hC
        refine sign_ok ⟨trivial, ?_⟩
        have e4 : decide (0 < p.2) = decide ((0 : Int) < sgn p.2) := decide_eq_decide.mpr (sgn_pos p.2).symm
        rw [e4] at hC
        exact hC _
      · rw [decide_eq_false h1, Bool.false_and] at hC
        exact hC _
    · rw [decide_eq_false h0, Bool.false_and, Bool.false_and] at hC
      exact hC _
theorem verE_ok {c : Crt} (hg : ∀ g ∈ hs, HZ n g) (hn : n ≤ 100000) (hz : ∀ p ∈ c, zb p.2 ≤ n) (hh : hs.length ≤ 1000) (hl : c.length ≤ 50) (h : Q (.d (.bl (verE hs c))) st) : sp_verify_emptiness [.d (.lst (hs.map hpD)), .d (crtD c)] st Q := by
  unfold sp_verify_emptiness
  refine ⟨rfl, ?_⟩
  let S : Option Vl → Option Vl → Option Vl → M := fun z2 z3 z4 => ⟨[some (.d (.lst (hs.map hpD))), some (.d (crtD c)), z2, z3, z4], st⟩
  unfold verE at h
  cases hf : fineC hs c with
  | false =>
    rw [hf, Bool.false_and] at h
    refine ifs_t (S none none none) (fun K hK => iscert_ok hh (by omega) ?_) ?_
    · rw [hf]
      exact hK
    · exact tk h
  | true =>
    rw [hf, Bool.true_and] at h
    refine guard_st (S none none none) (fun K hK => iscert_ok hh (by omega) ?_) ?_
    · rw [hf]
      exact hK
    have hc : ∀ p ∈ c, 0 ≤ p.1 ∧ p.1 < hs.length ∧ zb p.2 ≤ n := fun p hp => by
      unfold fineC at hf
      have := List.all_eq_true.mp (Bool.and_eq_true_iff.mp hf).2 p hp
      unfold okC at this
      simp only [Bool.and_eq_true, decide_eq_true_eq] at this
      exact ⟨this.1.1, this.1.2, hz p hp⟩
    obtain ⟨t, et⟩ : ∃ t, sumC hs c = t := ⟨_, rfl⟩
    rw [et] at h
    refine seq_to (S (some (.d (fr t.1))) (some (.d (fr t.2.1))) (some (.d (fr t.2.2)))) (fun K hK => sum_ok hg hn hc hl ?_) ?_
    · rw [et]
      exact ⟨rfl, hK⟩
    refine ⟨sh_fr', sh_fr' (q := 0), ?_⟩
    show if eqD (fr t.1) (fr 0) = true then _ else _
    rw [eqD_fr]
    refine ifd (fun h0 => ?_) fun h0 => ?_
    · rw [decide_eq_true h0, Bool.true_and] at h
      refine ⟨sh_fr', sh_fr' (q := 0), ?_⟩
      show if eqD (fr t.2.1) (fr 0) = true then _ else _
      rw [eqD_fr]
      refine ifd (fun h1 => ?_) fun h1 => ?_
      · rw [decide_eq_true h1, Bool.true_and] at h
        refine sign_ok ⟨trivial, ?_⟩
        have e4 : decide (t.2.2 < 0) = decide (sgn t.2.2 < (0 : Int)) := decide_eq_decide.mpr (sgn_neg t.2.2).symm
        rw [e4] at h
        exact tk h
      · rw [decide_eq_false h1, Bool.false_and] at h
        exact tk h
    · rw [decide_eq_false h0, Bool.false_and] at h
      exact tk h
end
end PG

set_option maxRecDepth 100000
set_option maxHeartbeats 4000000
namespace PG
open PySem PySem.Spec PyProof.Rows L2 RT
/-! points that a region must have -/
def projH (g : Hp3) : Ray := (Rat.divInt (g.r * g.p) (dotI g g), Rat.divInt (g.r * g.q) (dotI g g))
def meetR (g k : Hp3) : Option Ray := if dt g k = 0 then none else some (Rat.divInt (g.r * k.q - k.r * g.q) (dt g k), Rat.divInt (g.p * k.r - k.p * g.r) (dt g k))
def cands (hs : List Hp3) : List Ray := (0, 0) :: hs.flatMap fun g => projH g :: hs.filterMap (meetR g)
theorem divI {a b : Int} : Rat.divInt a b = (a : Rat) / (b : Rat) := Rat.divInt_eq_div ..
theorem meet_of {g k : Hp3} {x : Ray} (h : dt g k ≠ 0) (h1 : valH g x = g.r) (h2 : valH k x = k.r) : meetR g k = some x := by
  unfold meetR
  rw [if_neg h]
  have hd : (dt g k : Rat) ≠ 0 := fun y => h (Rat.intCast_eq_zero_iff.mp y)
  have e := dt_cast g k
  rw [divI, divI, Rat.intCast_sub, Rat.intCast_sub, castI, castI, castI, castI, ← h1, ← h2]
  unfold valH
  generalize (dt g k : Rat) = d at *
  obtain ⟨x1, x2⟩ := x
  dsimp only
  congr 1
  refine Prod.ext ?_ ?_
  · dsimp only
    rw [e]
    rw [e] at hd
    grind
  · dsimp only
    rw [e]
    rw [e] at hd
    grind
theorem meet_val {g k : Hp3} {x : Ray} (h : meetR g k = some x) : dt g k ≠ 0 ∧ valH g x = g.r ∧ valH k x = k.r := by
  unfold meetR at h
  by_cases h0 : dt g k = 0
  · rw [if_pos h0] at h
    cases h
  · rw [if_neg h0] at h
    have hd : (dt g k : Rat) ≠ 0 := fun y => h0 (Rat.intCast_eq_zero_iff.mp y)
    have e := dt_cast g k
    cases h
    unfold valH
    dsimp only
    rw [divI, divI, Rat.intCast_sub, Rat.intCast_sub, castI, castI, castI, castI]
    generalize (dt g k : Rat) = d at *
    exact ⟨h0, by grind, by grind⟩
theorem proj_val {g : Hp3} (h : Dir g) : valH g (projH g) = g.r := by
  have hd := h.pos
  have e := dot_cast g g
  unfold valH projH
  dsimp only
  rw [divI, divI, castI, castI]
  generalize (dotI g g : Rat) = d at *
  grind
def along (y z : Ray) (t : Rat) : Ray := (y.1 + t * (z.1 - y.1), y.2 + t * (z.2 - y.2))
theorem val_along (g : Hp3) (y z : Ray) (t : Rat) : valH g (along y z t) = valH g y + t * (valH g z - valH g y) := by
  unfold valH along
  dsimp only
  grind
/-- from a ray of a region towards another ray, as far as the region goes -/
theorem segment {hs : List Hp3} {y z : Ray} (hy : Rg hs y) : Rg hs z ∨ ∃ t, 0 ≤ t ∧ t < 1 ∧ Rg hs (along y z t) ∧ ∃ k ∈ hs, valH k (along y z t) = k.r ∧ (k.r : Rat) < valH k z := by
  rcases exists_min (fun k : Hp3 => (k.r : Rat) < valH k z) (fun k => ((k.r : Rat) - valH k y) / (valH k z - valH k y)) hs with h | ⟨m, hm, pm, hmin⟩
  · exact .inl fun g hg => Rat.not_lt.mp (h g hg)
  · have ym := hy m hm
    have dm : 0 < valH m z - valH m y := by grind
    refine .inr ⟨((m.r : Rat) - valH m y) / (valH m z - valH m y), ?_, ?_, fun g hg => ?_, m, hm, ?_, pm⟩
    · rw [Rat.div_def]
      exact Rat.mul_nonneg (by grind) (Rat.le_of_lt (Rat.inv_pos.mpr dm))
    · refine Rat.lt_of_mul_lt_mul_left (c := valH m z - valH m y) ?_ (Rat.le_of_lt dm)
      have : (valH m z - valH m y) * (((m.r : Rat) - valH m y) / (valH m z - valH m y)) = (m.r : Rat) - valH m y := by
        generalize valH m z - valH m y = d at *
        grind
      rw [this]
      grind
    · have yg := hy g hg
      have t0 : 0 ≤ ((m.r : Rat) - valH m y) / (valH m z - valH m y) := by
        rw [Rat.div_def]
        exact Rat.mul_nonneg (by grind) (Rat.le_of_lt (Rat.inv_pos.mpr dm))
      have t1 : ((m.r : Rat) - valH m y) / (valH m z - valH m y) ≤ 1 := by
        refine of_mul_le (a := valH m z - valH m y) ?_ dm
        have : (valH m z - valH m y) * (((m.r : Rat) - valH m y) / (valH m z - valH m y)) = (m.r : Rat) - valH m y := by
          generalize valH m z - valH m y = d at *
          grind
        rw [this]
        grind
      rw [val_along]
      by_cases pg : (g.r : Rat) < valH g z
      · have dg : 0 < valH g z - valH g y := by grind
        have w := mul_le (hmin g hg pg) (Rat.le_of_lt dg)
        have : (valH g z - valH g y) * (((g.r : Rat) - valH g y) / (valH g z - valH g y)) = (g.r : Rat) - valH g y := by
          generalize valH g z - valH g y = d at *
          grind
        rw [this] at w
        grind
      · have pg' : valH g z ≤ (g.r : Rat) := Rat.not_lt.mp pg
        generalize ((m.r : Rat) - valH m y) / (valH m z - valH m y) = t at *
        have w1 := mul_le pg' t0
        have w2 := mul_le yg (show 0 ≤ 1 - t by grind)
        grind
    · rw [val_along]
      generalize valH m z = a at *
      generalize valH m y = b at *
      have : a - b ≠ 0 := by grind
      grind
/-- lines with one direction -/
theorem par_val {g k : Hp3} (hg : Dir g) (h0 : dt g k = 0) {x y : Ray} (h : valH g x = valH g y) : valH k x = valH k y := by
  have hd := hg.pos
  have e := dt_cast g k
  rw [h0] at e
  have z0 : ((0 : Int) : Rat) = 0 := rfl
  rw [z0] at e
  have e2 := dot_cast g g
  unfold valH at *
  generalize (dotI g g : Rat) = d at *
  generalize (g.p : Rat) = gp at *
  generalize (g.q : Rat) = gq at *
  generalize (k.p : Rat) = kp at *
  generalize (k.q : Rat) = kq at *
  -- d * (k x - k y) = (k g) (g x - g y)
  have e3 : d * ((kp * x.1 + kq * x.2) - (kp * y.1 + kq * y.2)) = (gp * kp + gq * kq) * ((gp * x.1 + gq * x.2) - (gp * y.1 + gq * y.2)) := by
    rw [e2]
    grind
  rw [h] at e3
  have e4 : d * ((kp * x.1 + kq * x.2) - (kp * y.1 + kq * y.2)) = 0 := by grind
  have := (Rat.mul_eq_zero.mp e4).resolve_left (by grind)
  grind
/-- on a line of a region: its foot or a meeting lies in the region, too -/
theorem line_cand {hs : List Hp3} {k : Hp3} (hk : Dir k) {w : Ray} (hw : Rg hs w) (hkw : valH k w = k.r) : Rg hs (projH k) ∨ ∃ j ∈ hs, ∃ x, meetR k j = some x ∧ Rg hs x := by
  rcases segment (z := projH k) hw with h | ⟨t, t0, t1, hx, j, hj, e1, e2⟩
  · exact .inl h
  · refine .inr ⟨j, hj, along w (projH k) t, meet_of (fun h0 => ?_) ?_ e1, hx⟩
    · have hv : valH k (along w (projH k) t) = valH k (projH k) := by
        rw [val_along, proj_val hk, hkw]
        grind
      have := par_val hk h0 hv
      grind
    · rw [val_along, proj_val hk, hkw]
      grind
theorem cand_of {hs : List Hp3} (hd : ∀ g ∈ hs, Dir g) {x : Ray} (hx : Rg hs x) : ∃ c ∈ cands hs, Rg hs c := by
  rcases segment (z := (0, 0)) hx with h | ⟨t, _, _, hw, k, hk, e1, _⟩
  · exact ⟨_, List.mem_cons_self, h⟩
  · rcases line_cand (hd k hk) hw e1 with h | ⟨j, hj, y, hm, hy⟩
    · exact ⟨_, List.mem_cons_of_mem _ (List.mem_flatMap.mpr ⟨k, hk, List.mem_cons_self⟩), h⟩
    · exact ⟨y, List.mem_cons_of_mem _ (List.mem_flatMap.mpr ⟨k, hk, List.mem_cons_of_mem _ (List.mem_filterMap.mpr ⟨j, hj, hm⟩)⟩), hy⟩
def pts (hs : List Hp3) : List Ray := (cands hs).filter fun x => hs.all (hasH x)
theorem all_has {hs : List Hp3} {x : Ray} : hs.all (hasH x) = true ↔ Rg hs x := by
  rw [List.all_eq_true]
  unfold hasH Rg
  simp only [decide_eq_true_eq]
theorem pts_iff {hs : List Hp3} (hd : ∀ g ∈ hs, Dir g) : pts hs = [] ↔ ¬ ∃ x, Rg hs x := by
  constructor
  · rintro h ⟨x, hx⟩
    obtain ⟨c, hc, hr⟩ := cand_of hd hx
    have : c ∈ pts hs := List.mem_filter.mpr ⟨hc, all_has.mpr hr⟩
    rw [h] at this
    cases this
  · intro h
    rw [List.eq_nil_iff_forall_not_mem]
    intro c hc
    exact h ⟨c, all_has.mp (List.mem_filter.mp hc).2⟩
end PG

set_option maxRecDepth 100000
set_option maxHeartbeats 4000000
namespace PG
open PySem PySem.Spec PyProof.Rows L2 RT
/-- a drawn half-plane -/
def Pl (g : Hp3) : Prop := Dir g ∧ g.p.natAbs ≤ 2 ∧ g.q.natAbs ≤ 2 ∧ g.r.natAbs ≤ 6
theorem log_le {z : Int} {n b : Nat} (h : z.natAbs ≤ n) (hb : n < 2 ^ (b + 1)) : z.natAbs.log2 ≤ b := by
  by_cases h0 : z.natAbs = 0
  · rw [h0]
    exact Nat.zero_le _
  · have := (Nat.log2_lt h0 (k := b + 1)).mpr (by omega)
    omega
theorem Pl.z {g : Hp3} (h : Pl g) : HZ 4 g := by
  obtain ⟨_, h1, h2, h3⟩ := h
  have a := log_le (b := 1) h1 (by decide)
  have b := log_le (b := 1) h2 (by decide)
  have c := log_le (b := 2) h3 (by decide)
  exact ⟨by omega, by omega, by omega⟩
def plOf (p q r : Int) : Hp3 := ⟨p / gcd3 p q r, q / gcd3 p q r, r / gcd3 p q r⟩
theorem gcd3_pos {p q r : Int} (h : ¬ (p = 0 ∧ q = 0)) : 0 < gcd3 p q r := by
  unfold gcd3
  have : Int.gcd (Int.gcd p q : Int) r ≠ 0 := fun e => by
    have := (Int.gcd_eq_zero_iff.mp e).1
    have : Int.gcd p q = 0 := by omega
    exact h (Int.gcd_eq_zero_iff.mp this)
  omega
theorem div_ab {a d : Int} (hd : d ∣ a) (h0 : 0 < d) : (a / d).natAbs ≤ a.natAbs ∧ (a / d = 0 → a = 0) := by
  obtain ⟨w, rfl⟩ := hd
  rw [Int.mul_ediv_cancel_left _ (by omega)]
  refine ⟨?_, fun e => by rw [e, Int.mul_zero]⟩
  rw [Int.natAbs_mul]
  exact Nat.le_mul_of_pos_left _ (by omega)
theorem gcd3_dvd (p q r : Int) : gcd3 p q r ∣ p ∧ gcd3 p q r ∣ q ∧ gcd3 p q r ∣ r := by
  unfold gcd3
  have h1 : (Int.gcd (Int.gcd p q : Int) r : Int) ∣ (Int.gcd p q : Int) := Int.gcd_dvd_left ..
  exact ⟨Int.dvd_trans h1 (Int.gcd_dvd_left ..), Int.dvd_trans h1 (Int.gcd_dvd_right ..), Int.gcd_dvd_right ..⟩
theorem plOf_pl {p q r : Int} (h : ¬ (p = 0 ∧ q = 0)) (h1 : p.natAbs ≤ 2) (h2 : q.natAbs ≤ 2) (h3 : r.natAbs ≤ 6) : Pl (plOf p q r) := by
  obtain ⟨d1, d2, d3⟩ := gcd3_dvd p q r
  have g0 := gcd3_pos (r := r) h
  have a := div_ab d1 g0
  have b := div_ab d2 g0
  have c := div_ab d3 g0
  exact ⟨fun ⟨x, y⟩ => h ⟨a.2 x, b.2 y⟩, Nat.le_trans a.1 h1, Nat.le_trans b.1 h2, Nat.le_trans c.1 h3⟩
theorem pow200 {z : Int} {n : Nat} (h : z.natAbs ≤ n) (hn : n < 2 ^ 200 := by decide) : z.natAbs < 2 ^ 200 := Nat.lt_of_le_of_lt h hn
section
variable {ds : List Int} {i k : Nat} {st : List Cell} {Q : Vl → List Cell → Prop}
theorem plane2_ok (hk : st[k]? = some (Bx ds i)) (h : ∀ (g : Hp3) (j : Nat), Pl g → Q (.d (hpD g)) (st.set k (Bx ds j))) : sp__law_plane_2 [.c k] st Q := by
  have hlt : k < st.length := (List.getElem?_eq_some_iff.mp hk).1
  have hs : ∀ c : Cell, (st.set k c)[k]? = some c := fun c => by simp [hlt]
  have hl : ∀ c : Cell, (st.set k c).length = st.length := fun c => List.length_set
  have tk' : ∀ {v : Vl} {c : Cell}, Q v (st.set k c) → Q v ((st.set k c).take st.length) := fun {v c} q => by
    rw [← hl c]
    exact tk q
  unfold sp__law_plane_2
  refine ⟨rfl, ?_⟩
  let S : Int → Int → Option Vl → Option Vl → List Cell → M := fun p q z3 z4 c => ⟨[some (.c k), some (.d (.int p)), some (.d (.int q)), z3, z4], c⟩
  refine seq_mid (fun m => ∃ p c j, p.natAbs ≤ 2 ∧ c = st.set k (Bx ds j) ∧ m = ⟨[some (.c k), some (.d (.int p)), none, none, none], c⟩) (fun K hK => ?_) ?_
  · refine draw_ok hk (by decide) fun a a0 a1 => ⟨trivial, ?_⟩
    exact hK _ ⟨a - 2, _, _, by omega, rfl, rfl⟩
  rintro _ ⟨p, _, j, hp, rfl, rfl⟩
  refine seq_mid (fun m => ∃ q c j, q.natAbs ≤ 2 ∧ c = st.set k (Bx ds j) ∧ m = S p q none none c) (fun K hK => ?_) ?_
  · refine draw_ok (hs _) (by decide) fun a a0 a1 => ⟨trivial, ?_⟩
    exact hK _ ⟨a - 2, _, _, by omega, List.set_set _, rfl⟩
  rintro _ ⟨q, _, j, hq, rfl, rfl⟩
  refine seq_mid (fun m => ∃ p, ¬ (p = 0 ∧ q = 0) ∧ p.natAbs ≤ 2 ∧ m = S p q none none (st.set k (Bx ds j))) (fun K hK => ?_) ?_
  · refine ⟨rfl, rfl, ?_⟩
    show if eqD (.int p) (.int 0) = true then _ else _
    rw [eqD_int]
    refine ifd (fun c => ?_) fun c => ?_
    · refine ⟨rfl, rfl, ?_⟩
      show if eqD (.int q) (.int 0) = true then _ else _
      rw [eqD_int]
      refine ifd (fun c2 => ?_) fun c2 => ?_
      · exact hK _ ⟨1, by omega, by decide, rfl⟩
      · exact hK _ ⟨p, by omega, hp, rfl⟩
    · exact hK _ ⟨p, by omega, hp, rfl⟩
  rintro _ ⟨p, hn, hp, rfl⟩
  refine seq_mid (fun m => ∃ r c j, r.natAbs ≤ 6 ∧ c = st.set k (Bx ds j) ∧ m = S p q (some (.d (.int r))) none c) (fun K hK => ?_) ?_
  · refine draw_ok (hs _) (by decide) fun a a0 a1 => ⟨trivial, ?_⟩
    exact hK _ ⟨a - 4, _, _, by omega, List.set_set _, rfl⟩
  rintro _ ⟨r, _, j, hr, rfl, rfl⟩
  have g0 := gcd3_pos (r := r) hn
  refine seq_to (S p q (some (.d (.int r))) (some (.d (.int (gcd3 p q r)))) (st.set k (Bx ds j))) (fun K hK => ?_) ?_
  · refine divisor_ok (pow200 hq) ?_
    exact divisor_ok (pow200 hr) hK
  have n0 : gcd3 p q r ≠ 0 := by omega
  refine ⟨n0, n0, n0, lineN rfl, tk' ?_⟩
  have := h _ j (plOf_pl hn hp hq hr)
  unfold plOf at this
  rw [← fdiv_pos g0, ← fdiv_pos g0, ← fdiv_pos g0] at this
  exact this
def negP (g : Hp3) : Hp3 := ⟨0 - g.p, 0 - g.q, 0 - g.r⟩
theorem negP_pl {g : Hp3} (h : Pl g) : Pl (negP g) := by
  obtain ⟨d, h1, h2, h3⟩ := h
  unfold negP
  exact ⟨fun ⟨x, y⟩ => d ⟨by dsimp only at x; omega, by dsimp only at y; omega⟩, by dsimp only; omega, by dsimp only; omega, by dsimp only; omega⟩
theorem planes_ok {n : Nat} (hn : n ≤ 40) (hk : st[k]? = some (Bx ds i)) (h : ∀ (hs : List Hp3) (j : Nat), hs.length ≤ n + 1 → (∀ g ∈ hs, Pl g) → Q (.d (.lst (hs.map hpD))) (st.set k (Bx ds j))) : sp__law_planes [.c k, .d (.int n)] st Q := by
  have hlt : k < st.length := (List.getElem?_eq_some_iff.mp hk).1
  have hs : ∀ c : Cell, (st.set k c)[k]? = some c := fun c => by simp [hlt]
  have hl : ∀ c : Cell, (st.set k c).length = st.length := fun c => List.length_set
  have hs1 : ∀ c d : Cell, (st.set k c ++ [d])[k]? = some c := fun c d => by
    rw [List.getElem?_append_left (by rw [hl]; exact hlt)]
    exact hs c
  have gl : ∀ c d : Cell, (st.set k c ++ [d])[st.length]? = some d := fun c d => by rw [← hl c]; exact getElem_last _ _
  have ss : ∀ c d e : Cell, (st.set k c ++ [d]).set k e = st.set k e ++ [d] := fun c d e => by
    rw [List.set_append_left _ _ (by rw [hl]; exact hlt), List.set_set]
  have sl : ∀ c d e : Cell, (st.set k c ++ [d]).set st.length e = st.set k c ++ [e] := fun c d e => by
    rw [← hl c]; exact set_last _ _ _
  unfold sp__law_planes
  refine ⟨rfl, ?_⟩
  let S : Option Vl → List Hp3 → Nat → M := fun z3 hs j => ⟨[some (.c k), some (.d (.int n)), some (.c st.length), z3, none], st.set k (Bx ds j) ++ [Cell.lst (hs.map hpD)]⟩
  refine seq_mid (fun m => ∃ hs j, hs.length ≤ n ∧ (∀ g ∈ hs, Pl g) ∧ m = S none hs j) (fun K hK => ?_) ?_
  · refine draw_ok hk (by omega) fun a a0 a1 => ?_
    refine ⟨⟨by omega, by omega⟩, ?_⟩
    refine lc_inv (lk := none) hpD (fun r acc st' => ∃ j, st' = st.set k (Bx ds j) ∧ acc.length + r.length ≤ n ∧ ∀ g ∈ acc, Pl g) (fun _ _ _ _ => trivial) ?_ ?_ ?_ _ [] _ ⟨i + 1, rfl, by
      rw [rangeD_len, List.length_nil]
      omega, fun e he => nomatch he⟩
    · rintro x r acc st' ⟨j, rfl, hlen, _⟩
      rw [List.length_cons] at hlen
      exact small_lt (by omega)
    · rintro x r acc st' P ⟨j, rfl, hlen, ha⟩ hP
      refine plane2_ok (hs _) fun g j' hg => ?_
      rw [List.set_set]
      refine hP g ⟨_, _⟩ ⟨j', rfl, ?_, fun e' he' => ?_⟩
      · rw [List.length_append, List.length_singleton]
        rw [List.length_cons] at hlen
        omega
      · rcases List.mem_append.mp he' with h | h
        · exact ha e' h
        · rw [List.mem_singleton] at h
          rw [h]
          exact hg
    · rintro acc st' ⟨j, rfl, hlen, ha⟩
      have e : Option.some (Vl.c (st.set k (Bx ds j)).length) = some (.c st.length) := by rw [hl]
      refine hK _ ⟨acc, j, by simpa using hlen, ha, ?_⟩
      show M.mk [some (.c k), some (.d (.int n)), some (.c (st.set k (Bx ds j)).length), none, none] _ = _
      rw [e]
  rintro _ ⟨gs, j, hlen, hgs, rfl⟩
  refine seq_mid (fun m => ∃ z3 hs j, hs.length ≤ n + 1 ∧ (∀ g ∈ hs, Pl g) ∧ m = S z3 hs j) (fun K hK => ?_) ?_
  · refine onV_c (gl _ _) ?_
    refine ⟨trivial, ?_⟩
    refine ifd (fun c => ?_) fun c => ?_
    · rw [List.length_map] at c
      refine draw_ok (hs1 _ _) (by decide) fun a a0 a1 => ?_
      rw [ss]
      refine ⟨rfl, rfl, ?_⟩
      show if eqD (.int a) (.int 0) = true then _ else _
      rw [eqD_int]
      refine ifd (fun _ => ?_) fun _ => ?_
      · refine onV_c (gl _ _) ?_
        refine draw_ok (hs1 _ _) (by rw [List.length_map]; omega) fun b b0 b1 => ?_
        rw [ss]
        rw [List.length_map] at b1
        refine onV_c (gl _ _) ?_
        have hb : gs[b.toNat]? = some (hAt gs b.toNat) := hAt_get (by omega)
        have eb : b = ((b.toNat : Nat) : Int) := by omega
        refine rIx_mk (z := hpD (hAt gs b.toNat)) (by rw [eb]; exact atI_map (f := hpD) hb) ?_
        have pg := hgs _ (hAt_mem (show b.toNat < gs.length by omega))
        dsimp only
        refine append_st (k := st.length) (xs := gs.map hpD) (hpD (negP (hAt gs b.toNat))) ?_ ?_ (fun C hC => ?_) (small_lt (by rw [List.length_map]; omega)) ?_
        · rfl
        · exact gl _ _
        · exact ⟨trivial, trivial, trivial, lineN rfl, hC⟩
        · refine hK _ ⟨some (.d (hpD (hAt gs b.toNat))), gs ++ [negP (hAt gs b.toNat)], j + 1 + 1, by rw [List.length_append, List.length_singleton]; omega, fun g hg => ?_, congrArg (M.mk _) ?_⟩
          · rcases List.mem_append.mp hg with h | h
            · exact hgs g h
            · rw [List.mem_singleton.mp h]
              exact negP_pl pg
          · rw [sl, List.map_append]
            rfl
      · exact hK _ ⟨none, gs, _, by omega, hgs, rfl⟩
    · exact hK _ ⟨none, gs, _, by omega, hgs, rfl⟩
  rintro _ ⟨z3, gs, j, hlen, hgs, rfl⟩
  refine Eq.mp (if_neg (Nat.lt_irrefl _)).symm (onC_mk (gl _ _) ?_)
  show Q _ ((st.set k (Bx ds j) ++ [_]).take st.length)
  rw [← hl (Bx ds j), List.take_left]
  exact h gs j hlen hgs
end
end PG

set_option maxRecDepth 100000
set_option maxHeartbeats 4000000
namespace PG
open PySem PySem.Spec PyProof.Rows L2 RT
/-- .. over a list of one's own, knowing the members -/
theorem filt_ownM {α : Type} {f : α → Dt} {p : α → Bool} {sl slw : List (Option Vl)} {i : Nat} {lk : Option Nat} {tt : DT} {all : List Dt} {st : List Cell} {K : List Dt → M → Prop} (hlk : lockOk lk all ⟨sl, st⟩) (hi : i < slw.length) :
    ∀ (xs acc : List α), (∀ a ∈ xs, ∀ (P : Bool → M → Prop), P (p a) ⟨slw.set i (some (.d (f a))), st⟩ → tt ⟨slw.set i (some (.d (f a))), st⟩ P) → acc.length + xs.length ≤ 1000000 → K ((acc ++ xs.filter p).map f) ⟨sl, st⟩ → dLcGo sl slw (.nm i) tt (dVar i) all lk K (xs.map f) (acc.map f) st
  | [], acc, _, _, h => ⟨hlk, by rw [List.filter_nil, List.append_nil] at h; exact h⟩
  | x :: xs, acc, ht, hl, h => by
    rw [List.length_cons] at hl
    have hlk' := hlk
    refine ⟨hlk', ht x List.mem_cons_self _ ?_⟩
    have hv : (slw.set i (some (.d (f x))))[i]? = some (some (.d (f x))) := by simp [hi]
    have ht' := fun a ha => ht a (List.mem_cons_of_mem x ha)
    cases hp : p x with
    | true =>
      rw [if_pos rfl]
      unfold dVar
      simp only [hv]
      refine ⟨by rw [List.length_map]; exact small_lt (by omega), ?_⟩
      have := filt_ownM (all := all) (K := K) hlk hi xs (acc ++ [x]) ht' (by rw [List.length_append, List.length_singleton]; omega) (by rw [List.append_assoc]; rw [List.filter_cons, if_pos hp] at h; exact h)
      rw [List.map_append] at this
      exact this
    | false =>
      exact filt_ownM (K := K) hlk hi xs acc ht' (by omega) (by rw [List.filter_cons, if_neg (by rw [hp]; decide)] at h; exact h)
theorem fr_int (z : Int) : Dt.tup [.int z, .int 1] = fr (z : Rat) := rfl
theorem Pl.zb {g : Hp3} (h : Pl g) : zb (g.p : Rat) ≤ 5 ∧ zb (g.q : Rat) ≤ 5 ∧ zb (g.r : Rat) ≤ 5 := by
  obtain ⟨a, b, c⟩ := h.z
  have := zb_int g.p
  have := zb_int g.q
  have := zb_int g.r
  omega
section
variable {st : List Cell} {Q : Vl → List Cell → Prop} {g k l : Hp3} {x : Ray} {n : Nat} {hs : List Hp3}
theorem lvalue_ok (hg : Pl g) (h1 : zb x.1 ≤ 60) (h2 : zb x.2 ≤ 60) (h : Q (.d (fr (valH g x))) st) : sp__law_value [.d (hpD g), .d (rayD x)] st Q := by
  obtain ⟨a, b, c⟩ := hg.zb
  have w1 := zb_mul (g.p : Rat) x.1
  have w2 := zb_mul (g.q : Rat) x.2
  unfold sp__law_value
  refine ⟨rfl, lineN rfl, ?_⟩
  refine lmul_ok (x := (g.p : Rat)) (y := x.1) (by omega) ⟨lineN rfl, ?_⟩
  refine lmul_ok (x := (g.q : Rat)) (y := x.2) (by omega) ?_
  exact ladd_ok (by omega) (tk h)
theorem lval_z (hg : Pl g) (h1 : zb x.1 ≤ 60) (h2 : zb x.2 ≤ 60) : zb (valH g x) ≤ 140 := by
  obtain ⟨a, b, c⟩ := hg.zb
  have w1 := zb_mul (g.p : Rat) x.1
  have w2 := zb_mul (g.q : Rat) x.2
  have w5 := zb_add ((g.p : Rat) * x.1) ((g.q : Rat) * x.2)
  unfold valH
  omega
theorem has_neg : decide ((g.r : Rat) < valH g x) = !hasH x g := by
  unfold hasH
  rw [← decide_not]
  exact decide_eq_decide.mpr (by grind)
theorem holds_ok (hg : ∀ g ∈ hs, Pl g) (h1 : zb x.1 ≤ 60) (h2 : zb x.2 ≤ 60) (h : Q (.d (.bl (hs.all (hasH x)))) st) : sp__law_holds [.d (.lst (hs.map hpD)), .d (rayD x)] st Q := by
  unfold sp__law_holds
  refine ⟨rfl, ?_⟩
  let S : Option Vl → M := fun z => ⟨[some (.d (.lst (hs.map hpD))), some (.d (rayD x)), z], st⟩
  refine seq_mid (fun m => hs.all (hasH x) = true ∧ ∃ z, m = S z) (fun K hK => ?_) ?_
  · refine each_inv (lk := none) hpD (fun r m => (∀ g ∈ r, Pl g) ∧ r.all (hasH x) = hs.all (hasH x) ∧ ∃ z, m = S z) (fun _ _ _ => trivial) ?_ ?_ hs _ ⟨hg, rfl, none, rfl⟩
    · rintro g r _ K2 hK2 ⟨hr, he, z, rfl⟩
      have pg := hr g List.mem_cons_self
      refine ⟨lineN rfl, lvalue_ok pg h1 h2 ?_⟩
      have := lval_z pg h1 h2
      have := pg.zb
      refine less_ok (x := (g.r : Rat)) (y := valH g x) (zm (by omega)) ?_
      show if decide ((g.r : Rat) < valH g x) = true then _ else _
      rw [has_neg]
      rw [List.all_cons] at he
      cases hh : hasH x g with
      | true =>
        rw [hh, Bool.true_and] at he
        exact hK2 _ ⟨fun y hy => hr y (List.mem_cons_of_mem _ hy), he, some (.d (hpD g)), rfl⟩
      | false =>
        rw [hh, Bool.false_and] at he
        rw [← he] at h
        exact tk h
    · rintro _ ⟨_, he, z, rfl⟩
      exact hK _ ⟨he.symm, z, rfl⟩
  rintro _ ⟨he, z, rfl⟩
  rw [he] at h
  exact tk h
theorem Pl.mul {a b : Int} (h1 : a.natAbs ≤ 6) (h2 : b.natAbs ≤ 6) : MulOk a b := by
  have := log_le (b := 2) h1 (by decide)
  have := log_le (b := 2) h2 (by decide)
  exact mulok (zm (by omega))
theorem mulAb {a b : Int} {m n : Nat} (h1 : a.natAbs ≤ m) (h2 : b.natAbs ≤ n) : (a * b).natAbs ≤ m * n := by
  rw [Int.natAbs_mul]
  exact Nat.mul_le_mul h1 h2
theorem Pl.ab (hg : Pl g) : g.p.natAbs ≤ 6 ∧ g.q.natAbs ≤ 6 ∧ g.r.natAbs ≤ 6 := by
  obtain ⟨_, a, b, c⟩ := hg
  omega
theorem dt_ab (hg : Pl g) (hk : Pl k) : (dt g k).natAbs ≤ 8 := by
  obtain ⟨_, a1, b1, c1⟩ := hg
  obtain ⟨_, a2, b2, c2⟩ := hk
  have := mulAb a1 b2
  have := mulAb b1 a2
  unfold dt
  omega
theorem lmeet_ok (hg : Pl g) (hk : Pl k) (h : Q (.d (oray (meetR g k))) st) : sp__law_meet [.d (hpD g), .d (hpD k)] st Q := by
  obtain ⟨a1, b1, c1⟩ := hg.ab
  obtain ⟨a2, b2, c2⟩ := hk.ab
  have hd := dt_ab hg hk
  unfold sp__law_meet
  refine ⟨rfl, ?_⟩
  refine seq_to ⟨[some (.d (hpD g)), some (.d (hpD k)), some (.d (.int (dt g k)))], st⟩ (fun K hK => ⟨Pl.mul a1 b2, Pl.mul b1 a2, trivial, hK⟩) ?_
  refine ⟨rfl, rfl, ?_⟩
  show if eqD (.int (dt g k)) (.int 0) = true then _ else _
  rw [eqD_int]
  unfold meetR at h
  refine ifd (fun c => ?_) fun c => ?_
  · rw [if_pos c] at h
    exact tk h
  · rw [if_neg c] at h
    refine ⟨Pl.mul c1 b2, Pl.mul c2 b1, trivial, ?_⟩
    refine lfr_ok c (pow200 hd) ?_
    refine ⟨Pl.mul a1 c2, Pl.mul a2 c1, trivial, ?_⟩
    refine lfr_ok c (pow200 hd) ⟨lineN rfl, tk h⟩
theorem divI_z {a d : Int} (h0 : d ≠ 0) (h1 : a.natAbs ≤ 1000) (h2 : d.natAbs ≤ 1000) : zb (Rat.divInt a d) ≤ 20 := by
  have := zb_divInt (n := a) h0
  have := log_le (b := 9) h1 (by decide)
  have := log_le (b := 9) h2 (by decide)
  omega
end
end PG

set_option maxRecDepth 100000
set_option maxHeartbeats 4000000
namespace PG
open PySem PySem.Spec PyProof.Rows L2 RT
theorem dot_ab {g : Hp3} (hg : Pl g) : (dotI g g).natAbs ≤ 8 ∧ dotI g g ≠ 0 := by
  have hp := hg.1.pos
  obtain ⟨_, a1, b1, c1⟩ := hg
  have := mulAb a1 a1
  have := mulAb b1 b1
  refine ⟨by unfold dotI; omega, fun e => ?_⟩
  rw [e] at hp
  exact absurd hp (by decide)
theorem proj_z {g : Hp3} (hg : Pl g) : zb (projH g).1 ≤ 20 ∧ zb (projH g).2 ≤ 20 := by
  obtain ⟨d1, d2⟩ := dot_ab hg
  obtain ⟨_, a1, b1, c1⟩ := hg
  have := mulAb c1 a1
  have := mulAb c1 b1
  exact ⟨divI_z d2 (by omega) (by omega), divI_z d2 (by omega) (by omega)⟩
theorem meet_z {g k : Hp3} {x : Ray} (hg : Pl g) (hk : Pl k) (h : meetR g k = some x) : zb x.1 ≤ 20 ∧ zb x.2 ≤ 20 := by
  have d1 := dt_ab hg hk
  unfold meetR at h
  by_cases c : dt g k = 0
  · rw [if_pos c] at h
    cases h
  · rw [if_neg c] at h
    cases h
    obtain ⟨_, a1, b1, c1⟩ := hg
    obtain ⟨_, a2, b2, c2⟩ := hk
    have := mulAb c1 b2
    have := mulAb c2 b1
    have := mulAb a1 c2
    have := mulAb a2 c1
    exact ⟨divI_z c (by omega) (by omega), divI_z c (by omega) (by omega)⟩
theorem cand_z {hs : List Hp3} (hp : ∀ g ∈ hs, Pl g) : ∀ c ∈ cands hs, zb c.1 ≤ 20 ∧ zb c.2 ≤ 20 := fun c hc => by
  rcases List.mem_cons.mp hc with rfl | hc
  · exact ⟨by rw [zb0]; decide, by rw [zb0]; decide⟩
  · obtain ⟨g, hg, hc⟩ := List.mem_flatMap.mp hc
    rcases List.mem_cons.mp hc with rfl | hc
    · exact proj_z (hp g hg)
    · obtain ⟨k, hk, e⟩ := List.mem_filterMap.mp hc
      exact meet_z (hp g hg) (hp k hk) e
theorem candF_len (hs : List Hp3) (g : Hp3) : (projH g :: hs.filterMap (meetR g)).length ≤ hs.length + 1 := by
  rw [List.length_cons]
  have := List.length_filterMap_le (meetR g) hs
  omega
theorem cands_len (hs : List Hp3) : (cands hs).length ≤ hs.length * (hs.length + 1) + 1 := by
  unfold cands
  rw [List.length_cons]
  have := flatMap_len (l := hs) (f := fun g => projH g :: hs.filterMap (meetR g)) (c := hs.length + 1) fun g _ => candF_len hs g
  omega
section
variable {st : List Cell} {Q : Vl → List Cell → Prop} {g k l : Hp3} {x : Ray} {n : Nat} {hs : List Hp3}
theorem points_ok (hp : ∀ g ∈ hs, Pl g) (hl : hs.length ≤ 50) (h : Q (.d (.lst ((pts hs).map rayD))) st) : sp__law_points [.d (.lst (hs.map hpD))] st Q := by
  unfold sp__law_points
  refine ⟨rfl, ?_⟩
  let S : List Ray → Option Vl → Option Vl → Option Vl → Option Vl → M := fun acc z2 z3 z4 z5 => ⟨[some (.d (.lst (hs.map hpD))), some (.c st.length), z2, z3, z4, z5], st ++ [Cell.lst (acc.map rayD)]⟩
  have cl : (cands hs).length ≤ 2551 := Nat.le_trans (cands_len hs) (Nat.succ_le_succ (Nat.mul_le_mul hl (Nat.succ_le_succ hl)))
  obtain ⟨res, hres⟩ : ∃ res, cands hs = res := ⟨_, rfl⟩
  refine seq_to (S [(0, 0)] none none none none) (fun K hK => ⟨lineN rfl, lineN rfl, lineN rfl, lineN rfl, hK⟩) ?_
  refine seq_mid (fun m => ∃ z2 z3 z4 z5, m = S res z2 z3 z4 z5) (fun K hK => ?_) ?_
  · refine each_inv (lk := none) hpD (fun r m => ∃ acc z2 z3 z4 z5, (∀ g ∈ r, Pl g) ∧ acc ++ r.flatMap (fun g => projH g :: hs.filterMap (meetR g)) = res ∧ m = S acc z2 z3 z4 z5) (fun _ _ _ => trivial) ?_ ?_ hs _ ⟨[(0, 0)], none, none, none, none, hp, hres, rfl⟩
    · rintro g r _ K2 hK2 ⟨acc, z2, z3, z4, z5, hr, he, rfl⟩
      have pg := hr g List.mem_cons_self
      obtain ⟨d1, d2⟩ := dot_ab pg
      obtain ⟨a1, b1, c1⟩ := pg.ab
      have acl : acc.length + (1 + ((hs.filterMap (meetR g)).length + (r.flatMap (fun g => projH g :: hs.filterMap (meetR g))).length)) = res.length := by
        rw [← he, List.length_append, List.flatMap_cons, List.length_append, List.length_cons]
        omega
      rw [hres] at cl
      refine seq_to (S acc (some (.d (hpD g))) (some (.d (.int (dotI g g)))) z4 z5) (fun K hK => ⟨Pl.mul a1 a1, Pl.mul b1 b1, hK⟩) ?_
      refine seq_to (S (acc ++ [projH g]) (some (.d (hpD g))) (some (.d (.int (dotI g g)))) z4 z5) (fun K hK => ?_) ?_
      · refine append_st (k := st.length) (xs := acc.map rayD) (rayD (projH g)) ?_ ?_ (fun C hC => ?_) (small_lt (by rw [List.length_map]; omega)) ?_
        · rfl
        · exact getElem_last _ _
        · refine ⟨Pl.mul c1 a1, ?_⟩
          refine lfr_ok d2 (pow200 d1) ⟨Pl.mul c1 b1, ?_⟩
          exact lfr_ok d2 (pow200 d1) ⟨lineN rfl, hC⟩
        · dsimp only [S]
          rw [set_last]
          have hK' := hK
          dsimp only [S] at hK'
          rw [List.map_append] at hK'
          exact hK'
      refine each_inv (lk := none) hpD (fun r2 m => ∃ acc2 z4 z5, (∀ g ∈ r2, Pl g) ∧ acc2 ++ r2.filterMap (meetR g) = (acc ++ [projH g]) ++ hs.filterMap (meetR g) ∧ m = S acc2 (some (.d (hpD g))) (some (.d (.int (dotI g g)))) z4 z5) (fun _ _ _ => trivial) ?_ ?_ hs _ ⟨acc ++ [projH g], z4, z5, hp, rfl, rfl⟩
      · rintro k r2 _ K3 hK3 ⟨acc2, z4, z5, hr2, he2, rfl⟩
        have pk := hr2 k List.mem_cons_self
        refine seq_to (S acc2 (some (.d (hpD g))) (some (.d (.int (dotI g g)))) (some (.d (hpD k))) (some (.d (oray (meetR g k))))) (fun K hK => lmeet_ok pg pk hK) ?_
        rw [List.filterMap_cons] at he2
        cases hm : meetR g k with
        | none =>
          rw [hm] at he2
          exact hK3 _ ⟨acc2, _, _, fun y hy => hr2 y (List.mem_cons_of_mem _ hy), he2, rfl⟩
        | some x =>
          rw [hm] at he2
          have acl2 : acc2.length + 1 ≤ 2551 := by
            have := congrArg List.length he2
            simp only [List.length_append, List.length_cons, List.length_nil] at this
            omega
          refine ifs_t (S acc2 (some (.d (hpD g))) (some (.d (.int (dotI g g)))) (some (.d (hpD k))) (some (.d (oray (some x))))) (fun K h => h) ?_
          refine append_st (k := st.length) (xs := acc2.map rayD) (rayD x) ?_ ?_ (fun C hC => ?_) (small_lt (by rw [List.length_map]; omega)) ?_
          · rfl
          · exact getElem_last _ _
          · exact hC
          · refine hK3 _ ⟨acc2 ++ [x], _, _, fun y hy => hr2 y (List.mem_cons_of_mem _ hy), ?_, congrArg (M.mk _) ?_⟩
            · rw [List.append_assoc]
              exact he2
            · show (st ++ [_]).set st.length _ = st ++ [_]
              rw [set_last, List.map_append]
              rfl
      · rintro _ ⟨acc2, z4, z5, _, he2, rfl⟩
        rw [List.filterMap_nil, List.append_nil] at he2
        refine hK2 _ ⟨acc2, _, _, _, _, fun y hy => hr y (List.mem_cons_of_mem _ hy), ?_, rfl⟩
        rw [he2, ← he, List.flatMap_cons, List.append_assoc, List.append_assoc]
        rfl
    · rintro _ ⟨acc, z2, z3, z4, z5, _, he, rfl⟩
      rw [List.flatMap_nil, List.append_nil] at he
      exact hK _ ⟨_, _, _, _, by rw [he]⟩
  rintro _ ⟨z2, z3, z4, z5, rfl⟩
  rw [hres] at cl
  show onC (st ++ [Cell.lst (res.map rayD)]) st.length _
  refine onC_mk (getElem_last _ _) ?_
  refine filt_ownM (f := rayD) (p := fun x => hs.all (hasH x)) (i := 5) ?_ ?_ res [] (fun s hs' P hP => ?_) ?_ ?_
  · exact getElem_last _ _
  · exact Nat.lt_of_sub_eq_succ rfl
  · rw [← hres] at hs'
    obtain ⟨y1, y2⟩ := cand_z hp s hs'
    exact holds_ok hp (by omega) (by omega) hP
  · rw [List.length_nil]
    omega
  · rw [List.nil_append]
    show Q (.d (.lst _)) ((st ++ [_]).take st.length)
    rw [List.take_left]
    unfold pts at h
    rw [hres] at h
    exact h
end
end PG

set_option maxRecDepth 100000
set_option maxHeartbeats 4000000
namespace PG
open PySem PySem.Spec PyProof.Rows L2 RT
def owlD : Option (List Int) → Dt
  | none => .non
  | some w => .lst (w.map .int)
def pairF (g k : Hp3) : Option (List Int) := match oppW g k with
  | none => none
  | some (a, b) => if 0 ≤ a * g.r + b * k.r then none else some [a, b]
def threeF (g k l : Hp3) : Option (List Int) := match triW g k l with
  | none => none
  | some (a, b, c) => if 0 ≤ a * g.r + b * k.r + c * l.r then none else some [a, b, c]
theorem lgdiv {a b : Int} {n m : Nat} (h : b.natAbs ≤ n) (hd : b ∣ a) (ha : a.natAbs ≤ m) : (a / b).natAbs ≤ m := by
  obtain ⟨w, rfl⟩ := hd
  by_cases h0 : b = 0
  · subst h0
    rw [Int.ediv_zero]
    exact Nat.zero_le _
  · rw [Int.mul_ediv_cancel_left _ h0]
    rw [Int.natAbs_mul] at ha
    have := Nat.le_mul_of_pos_left w.natAbs (show 0 < b.natAbs by omega)
    omega
theorem Pl.mul2 {a b : Int} (h1 : a.natAbs ≤ 1000) (h2 : b.natAbs ≤ 1000) : MulOk a b := by
  have := log_le (b := 9) h1 (by decide)
  have := log_le (b := 9) h2 (by decide)
  exact mulok (zm (by omega))
theorem n1_ab {g : Hp3} (hg : Pl g) : 0 < n1 g ∧ (n1 g).natAbs ≤ 4 := by
  have := n1_pos hg.1
  obtain ⟨_, a, b, c⟩ := hg
  unfold n1 at *
  rw [ab_nat, ab_nat] at *
  omega
section
variable {st : List Cell} {Q : Vl → List Cell → Prop} {g k l : Hp3} {x : Ray} {n : Nat} {hs : List Hp3}
theorem lpair_ok (hg : Pl g) (hk : Pl k) (h : Q (.d (owlD (pairF g k))) st) : sp__law_pair [.d (hpD g), .d (hpD k)] st Q := by
  obtain ⟨a1, b1, c1⟩ := hg.ab
  obtain ⟨a2, b2, c2⟩ := hk.ab
  unfold sp__law_pair
  refine ⟨rfl, ?_⟩
  let S : Option Vl → Option Vl → Option Vl → M := fun z2 z3 z4 => ⟨[some (.d (hpD g)), some (.d (hpD k)), z2, z3, z4], st⟩
  unfold pairF at h
  by_cases c : dt g k ≠ 0 ∨ 0 ≤ dotI g k
  · have e : oppW g k = none := by unfold oppW; rw [if_pos c]
    rw [e] at h
    refine ⟨Pl.mul a1 b2, Pl.mul b1 a2, rfl, rfl, ?_⟩
    have e2 : (!eqD (.int (g.p * k.q)) (.int (g.q * k.p))) = decide (dt g k ≠ 0) := by
      rw [eqD_int, ← decide_not]
      exact decide_eq_decide.mpr (by unfold dt; omega)
    show if (!eqD (.int (g.p * k.q)) (.int (g.q * k.p))) = true then _ else _
    rw [e2]
    refine ifd (fun _ => tk h) fun c0 => ?_
    refine ⟨Pl.mul a1 a2, Pl.mul b1 b2, trivial, ?_⟩
    show if decide (0 ≤ g.p * k.p + g.q * k.q) = true then _ else _
    refine ifd (fun _ => tk h) fun z => ?_
    exact (z (c.resolve_left c0)).elim
  · have c0 : dt g k = 0 := Classical.not_not.mp fun z => c (.inl z)
    have c1' : ¬ 0 ≤ dotI g k := fun z => c (.inr z)
    have e : oppW g k = some (n1 k / (Int.gcd (n1 k) (n1 g) : Int), n1 g / (Int.gcd (n1 k) (n1 g) : Int)) := by unfold oppW; rw [if_neg c]
    rw [e] at h
    refine guard_st (S none none none) (fun K hK => ?_) ?_
    · refine ⟨Pl.mul a1 b2, Pl.mul b1 a2, rfl, rfl, ?_⟩
      have e2 : (!eqD (.int (g.p * k.q)) (.int (g.q * k.p))) = false := by
        rw [eqD_int, ← decide_not]
        exact decide_eq_false (by unfold dt at c0; omega)
      show if (!eqD (.int (g.p * k.q)) (.int (g.q * k.p))) = true then _ else _
      rw [e2]
      refine ⟨Pl.mul a1 a2, Pl.mul b1 b2, trivial, ?_⟩
      show K (decide (0 ≤ g.p * k.p + g.q * k.q)) _
      rw [show decide (0 ≤ g.p * k.p + g.q * k.q) = false from decide_eq_false c1']
      exact hK
    refine seq_to (S (some (.d (.int (n1 k)))) none none) (fun K hK => hK) ?_
    refine seq_to (S (some (.d (.int (n1 k)))) (some (.d (.int (n1 g)))) none) (fun K hK => hK) ?_
    obtain ⟨p1, q1⟩ := n1_ab hg
    obtain ⟨p2, q2⟩ := n1_ab hk
    have hd : Int.gcd (n1 k) (n1 g) ≠ 0 := fun e => by
      have := (Int.gcd_eq_zero_iff.mp e).1
      omega
    obtain ⟨d, ed⟩ : ∃ d, (Int.gcd (n1 k) (n1 g) : Int) = d := ⟨_, rfl⟩
    have dv1 : d ∣ n1 k := by rw [← ed]; exact Int.gcd_dvd_left ..
    have dv2 : d ∣ n1 g := by rw [← ed]; exact Int.gcd_dvd_right ..
    have dpos : 0 < d := by omega
    rw [ed] at h
    refine seq_to (S (some (.d (.int (n1 k)))) (some (.d (.int (n1 g)))) (some (.d (.int d)))) (fun K hK => divisor_ok (pow200 q1) (by rw [ed]; exact hK)) ?_
    have n0 : d ≠ 0 := by omega
    have w1 := (div_ab dv1 dpos).1
    have w2 := (div_ab dv2 dpos).1
    refine ⟨n0, ?_⟩
    show MulOk ((n1 k).fdiv d) g.r ∧ _
    refine ⟨by rw [fdiv_pos dpos]; exact Pl.mul2 (by omega) (by omega), n0, ?_⟩
    show MulOk ((n1 g).fdiv d) k.r ∧ _
    refine ⟨by rw [fdiv_pos dpos]; exact Pl.mul2 (by omega) (by omega), trivial, ?_⟩
    show if decide (0 ≤ (n1 k).fdiv d * g.r + (n1 g).fdiv d * k.r) = true then _ else _
    rw [fdiv_pos dpos, fdiv_pos dpos]
    dsimp only at h
    refine ifd (fun c => ?_) fun c => ?_
    · rw [if_pos c] at h
      exact tk h
    · rw [if_neg c] at h
      refine ⟨n0, n0, lineN rfl, tk ?_⟩
      show Q (.d (.lst [.int ((n1 k).fdiv d), .int ((n1 g).fdiv d)])) st
      rw [fdiv_pos dpos, fdiv_pos dpos]
      exact h
theorem lthree_ok (hg : Pl g) (hk : Pl k) (hl : Pl l) (h : Q (.d (owlD (threeF g k l))) st) : sp__law_three [.d (hpD g), .d (hpD k), .d (hpD l)] st Q := by
  obtain ⟨a1, b1, c1⟩ := hg.ab
  obtain ⟨a2, b2, c2⟩ := hk.ab
  obtain ⟨a3, b3, c3⟩ := hl.ab
  have d1 := dt_ab hk hl
  have d2 := dt_ab hl hg
  have d3 := dt_ab hg hk
  unfold sp__law_three
  refine ⟨rfl, ?_⟩
  let S : Option Vl → Option Vl → Option Vl → Option Vl → M := fun z3 z4 z5 z6 => ⟨[some (.d (hpD g)), some (.d (hpD k)), some (.d (hpD l)), z3, z4, z5, z6], st⟩
  refine seq_to (S (some (.d (.int (dt k l)))) none none none) (fun K hK => ⟨Pl.mul a2 b3, Pl.mul b2 a3, trivial, hK⟩) ?_
  refine seq_to (S (some (.d (.int (dt k l)))) (some (.d (.int (dt l g)))) none none) (fun K hK => ⟨Pl.mul a3 b1, Pl.mul b3 a1, trivial, hK⟩) ?_
  refine seq_to (S (some (.d (.int (dt k l)))) (some (.d (.int (dt l g)))) (some (.d (.int (dt g k)))) none) (fun K hK => ⟨Pl.mul a1 b2, Pl.mul b1 a2, trivial, hK⟩) ?_
  refine seq_to (S (some (.d (.int (w3 g k l).1))) (some (.d (.int (w3 g k l).2.1))) (some (.d (.int (w3 g k l).2.2))) none) (fun K hK => ?_) ?_
  · refine ⟨trivial, ifd (fun z => ?_) fun z => ?_⟩
    · have e : w3 g k l = (0 - dt k l, 0 - dt l g, 0 - dt g k) := by
        unfold w3
        rw [if_pos z, Int.zero_sub, Int.zero_sub, Int.zero_sub]
      rw [e] at hK
      exact ⟨trivial, trivial, trivial, hK⟩
    · have e : w3 g k l = (dt k l, dt l g, dt g k) := by unfold w3; rw [if_neg z]
      rw [e] at hK
      exact hK
  unfold threeF triW at h
  have hx : (w3 g k l).1.natAbs ≤ 8 ∧ (w3 g k l).2.1.natAbs ≤ 8 ∧ (w3 g k l).2.2.natAbs ≤ 8 := by
    unfold w3
    split <;> (dsimp only; omega)
  obtain ⟨hx, hy, hz⟩ := hx
  generalize (w3 g k l).1 = x at *
  generalize (w3 g k l).2.1 = y at *
  generalize (w3 g k l).2.2 = z at *
  by_cases c : x ≤ 0 ∨ y ≤ 0 ∨ z ≤ 0
  · rw [if_pos c] at h
    refine ⟨trivial, ifd (fun _ => tk h) fun c1 => ?_⟩
    refine ⟨trivial, ifd (fun _ => tk h) fun c2 => ?_⟩
    refine ⟨trivial, ifd (fun _ => tk h) fun c3 => ?_⟩
    omega
  · rw [if_neg c] at h
    dsimp only at h
    have g0 : 0 < gcd3 x y z := gcd3_pos (fun ⟨e, _⟩ => c (.inl (by omega)))
    obtain ⟨e1, e2, e3⟩ := gcd3_dvd x y z
    obtain ⟨d, ed⟩ : ∃ d, gcd3 x y z = d := ⟨_, rfl⟩
    have key : (0 ≤ x / d * g.r + y / d * k.r + z / d * l.r) ↔ 0 ≤ x * g.r + y * k.r + z * l.r := by
      rw [ed] at e1 e2 e3 g0
      obtain ⟨x', rfl⟩ := e1
      obtain ⟨y', rfl⟩ := e2
      obtain ⟨z', rfl⟩ := e3
      rw [Int.mul_ediv_cancel_left _ (by omega), Int.mul_ediv_cancel_left _ (by omega), Int.mul_ediv_cancel_left _ (by omega)]
      have : d * x' * g.r + d * y' * k.r + d * z' * l.r = d * (x' * g.r + y' * k.r + z' * l.r) := by grind
      rw [this]
      constructor
      · intro h
        exact Int.mul_nonneg (by omega) h
      · intro h
        exact Int.le_of_mul_le_mul_left (a := d) (by omega) g0
    refine ⟨trivial, ifd (fun a => (c (.inl a)).elim) fun _ => ?_⟩
    refine ⟨trivial, ifd (fun a => (c (.inr (.inl a))).elim) fun _ => ?_⟩
    refine ⟨trivial, ifd (fun a => (c (.inr (.inr a))).elim) fun _ => ?_⟩
    refine ⟨Pl.mul2 (by omega) (by omega), Pl.mul2 (by omega) (by omega), Pl.mul2 (by omega) (by omega), trivial, ?_⟩
    rw [ed] at h g0 e1 e2 e3
    refine ifd (fun a => ?_) fun a => ?_
    · rw [if_pos (key.mpr a)] at h
      exact tk h
    · rw [if_neg (fun b => a (key.mp b))] at h
      refine divisor_ok (pow200 hy) ?_
      refine divisor_ok (pow200 hz) ?_
      have ed' : (Int.gcd (Int.gcd x y : Int) z : Int) = d := ed
      rw [ed']
      have n0 : d ≠ 0 := by omega
      refine ⟨n0, n0, n0, lineN rfl, tk ?_⟩
      show Q (.d (.lst [.int (x.fdiv d), .int (y.fdiv d), .int (z.fdiv d)])) st
      rw [fdiv_pos g0, fdiv_pos g0, fdiv_pos g0]
      exact h
/-- the certificate of one set -/
def Fc (hs : List Hp3) (s : OSet) : Option Crt := match s.2 with
  | none => none
  | some w => if numOf hs (s.1, w) < 0 then some ((s.1.zip w).map fun p => ((p.1 : Int), (p.2 : Rat))) else none
theorem ecert_eq (hs : List Hp3) : ecert hs = (allP hs ++ allT hs).findSome? (Fc hs) := by
  unfold ecert osets
  generalize allP hs ++ allT hs = l
  induction l with
  | nil => rfl
  | cons s l ih =>
    obtain ⟨ix, o⟩ := s
    cases o with
    | none => exact ih
    | some w =>
      rw [List.filterMap_cons, List.findSome?_cons]
      dsimp only [Option.map_some, Fc]
      by_cases c : numOf hs (ix, w) < 0
      · rw [List.find?_cons_of_pos (by simpa using c), if_pos c]
        rfl
      · rw [List.find?_cons_of_neg (by simpa using c), if_neg c]
        exact ih
theorem find_flat {α β γ : Type} (f : α → List β) (F : β → Option γ) : ∀ l : List α, (l.flatMap f).findSome? F = l.findSome? fun a => (f a).findSome? F
  | [] => rfl
  | a :: l => by
    rw [List.flatMap_cons, List.findSome?_append, List.findSome?_cons, find_flat f F l]
    cases (f a).findSome? F <;> rfl
theorem find_one {β γ : Type} (b : β) (F : β → Option γ) : [b].findSome? F = F b := by
  rw [List.findSome?_cons]
  cases F b <;> rfl
theorem Fc2 (i j : Nat) : Fc hs (pr2 hs i j) = (pairF (hAt hs i) (hAt hs j)).map fun w => (([i, j].zip w).map fun p => ((p.1 : Int), (p.2 : Rat))) := by
  unfold Fc pr2 pairF
  cases e : oppW (hAt hs i) (hAt hs j) with
  | none => rfl
  | some w =>
    obtain ⟨a, b⟩ := w
    dsimp only [Option.map_some]
    rw [num2]
    have e2 : (hAt hs i).r * a + (hAt hs j).r * b = a * (hAt hs i).r + b * (hAt hs j).r := by grind
    rw [e2]
    by_cases c : 0 ≤ a * (hAt hs i).r + b * (hAt hs j).r
    · rw [if_pos c, if_neg (by omega)]
      rfl
    · rw [if_neg c, if_pos (by omega)]
      rfl
theorem Fc3 (i j k : Nat) : Fc hs (pr3 hs i j k) = (threeF (hAt hs i) (hAt hs j) (hAt hs k)).map fun w => (([i, j, k].zip w).map fun p => ((p.1 : Int), (p.2 : Rat))) := by
  unfold Fc pr3 threeF
  cases e : triW (hAt hs i) (hAt hs j) (hAt hs k) with
  | none => rfl
  | some w =>
    obtain ⟨a, b, c⟩ := w
    dsimp only [Option.map_some]
    rw [num3]
    have e2 : (hAt hs i).r * a + (hAt hs j).r * b + (hAt hs k).r * c = a * (hAt hs i).r + b * (hAt hs j).r + c * (hAt hs k).r := by grind
    rw [e2]
    by_cases c : 0 ≤ a * (hAt hs i).r + b * (hAt hs j).r + c * (hAt hs k).r
    · rw [if_pos c, if_neg (by omega)]
      rfl
    · rw [if_neg c, if_pos (by omega)]
      rfl
end
end PG

set_option maxRecDepth 100000
set_option maxHeartbeats 4000000
namespace PG
open PySem PySem.Spec PyProof.Rows L2 RT
/-- a loop over a range that ends at the first find -/
theorem range_find {β : Type} {i : Nat} {b : DS} {all : List Dt} {E : DEnds} (P : M → Prop) (G : Nat → Option β) (R : β → Prop) {hi : Nat}
    (hs : ∀ (k : Nat) (m : M) (K : M → Prop), k < hi → P m → (∀ c, G k = some c → R c) → (G k = none → ∀ m', P m' → K m') → b ⟨K, E.rt, E.nx, K⟩ ⟨m.sl.set i (some (.d (.int k))), m.st⟩) :
    ∀ (n k : Nat) (m : M), k + n = hi → P m → (∀ c, (List.range' k n).findSome? G = some c → R c) → ((List.range' k n).findSome? G = none → ∀ m', P m' → E.nx m') → dLoop (.nm i) b all none E (rangeD k n) m
  | 0, k, m, _, p, _, h => ⟨trivial, h rfl m p⟩
  | n + 1, k, m, hk, p, hR, h => ⟨trivial, hs k m _ (by omega) p (fun c e => hR c (by rw [List.range'_succ, List.findSome?_cons, e])) fun e m' p' => by
    rw [List.range'_succ, List.findSome?_cons, e] at hR h
    have := range_find P G R (i := i) (b := b) (all := all) (E := E) hs n (k + 1) m' (by omega) p' hR h
    exact this⟩
theorem pairF_some {g k : Hp3} {w : List Int} (h : pairF g k = some w) : ∃ a b, w = [a, b] := by
  unfold pairF at h
  split at h
  · cases h
  · split at h
    · cases h
    · cases h
      exact ⟨_, _, rfl⟩
theorem threeF_some {g k l : Hp3} {w : List Int} (h : threeF g k l = some w) : ∃ a b c, w = [a, b, c] := by
  unfold threeF at h
  split at h
  · cases h
  · split at h
    · cases h
    · cases h
      exact ⟨_, _, _, rfl⟩
section
variable {st : List Cell} {Q : Vl → List Cell → Prop} {hs : List Hp3} {n : Nat}
theorem lfirst_ok (hp : ∀ g ∈ hs, Pl g) (hl : hs.length ≤ 45) (h : Q (.d (ocrtD (ecert hs))) st) : sp__law_first [.d (.lst (hs.map hpD))] st Q := by
  unfold sp__law_first
  refine ⟨rfl, ?_⟩
  rw [ecert_eq, List.findSome?_append] at h
  let S : Option Vl → Option Vl → Option Vl → Option Vl → M := fun z2 z3 z4 z5 => ⟨[some (.d (.lst (hs.map hpD))), some (.d (.int hs.length)), z2, z3, z4, z5], st⟩
  refine seq_to (S none none none none) (fun K hK => ?_) ?_
  · show K ⟨[_, some (.d (.int ((hs.map hpD).length : Int))), none, none, none, none], st⟩
    rw [List.length_map]
    exact hK
  have sm : ∀ a b : Nat, a ≤ 100 → b ≤ 100 → small62 (a : Int) ∧ small62 (b : Int) := fun a b ha hb => ⟨⟨by omega, by omega⟩, ⟨by omega, by omega⟩⟩
  have at_ : ∀ i, i < hs.length → atI (hs.map hpD) (i : Int) = some (hpD (hAt hs i)) := fun i hi => atI_map (f := hpD) (hAt_get hi)
  have rg : ∀ k : Nat, k < hs.length → rangeD (((k : Nat) : Int) + 1) (((hs.length : Nat) : Int) - (((k : Nat) : Int) + 1)).toNat = rangeD ((k + 1 : Nat) : Int) (hs.length - (k + 1)) := fun k hk => by
    congr 1
    omega
  have pl : ∀ i, i < hs.length → Pl (hAt hs i) := fun i hi => hp _ (hAt_mem hi)
  refine seq_mid (fun m => (allP hs).findSome? (Fc hs) = none ∧ ∃ z2 z3 z4, m = S z2 z3 z4 none) (fun K hK => ?_) ?_
  · refine ⟨(sm hs.length hs.length (by omega) (by omega)).1, ?_⟩
    have eG : (allP hs).findSome? (Fc hs) = (List.range' 0 hs.length).findSome? fun i => (upTo hs.length i).findSome? fun j => Fc hs (pr2 hs i j) := by
      unfold allP
      rw [find_flat]
      refine congrArg (fun f => List.findSome? f _) (funext fun i => ?_)
      rw [find_flat]
      exact congrArg (fun f => List.findSome? f _) (funext fun j => find_one _ _)
    rw [eG] at h hK
    refine range_find (fun m => ∃ z2 z3 z4, m = S z2 z3 z4 none) (fun i => (upTo hs.length i).findSome? fun j => Fc hs (pr2 hs i j)) (fun c => Q (.d (crtD c)) st) (hi := hs.length) ?_ hs.length 0 _ (by omega) ⟨none, none, none, rfl⟩ (fun c e => ?_) (fun e m' p' => hK m' ⟨e, p'⟩)
    · rintro i _ K2 hi ⟨z2, z3, z4, rfl⟩ hR hK2
      refine ⟨sm (i + 1) hs.length (by omega) (by omega), ?_⟩
      show dLoop (.nm 3) _ _ none _ (rangeD (((i : Nat) : Int) + 1) (((hs.length : Nat) : Int) - (((i : Nat) : Int) + 1)).toNat) _
      rw [rg i hi]
      refine range_find (fun m => ∃ z3 z4, m = S (some (.d (.int i))) z3 z4 none) (fun j => Fc hs (pr2 hs i j)) (fun c => Q (.d (crtD c)) st) (hi := hs.length) ?_ _ (i + 1) _ (by omega) ⟨z3, z4, rfl⟩ hR (fun e m' ⟨z3', z4', p'⟩ => hK2 e m' ⟨_, _, _, p'⟩)
      rintro j _ K3 hj ⟨z3, z4, rfl⟩ hR hK3
      rw [Fc2] at hR hK3
      refine seq_to (S (some (.d (.int i))) (some (.d (.int j))) (some (.d (owlD (pairF (hAt hs i) (hAt hs j))))) none) (fun K hK => ?_) ?_
      · refine rIx_mk (at_ i hi) ?_
        refine rIx_mk (at_ j hj) ?_
        exact lpair_ok (pl i hi) (pl j hj) hK
      cases e : pairF (hAt hs i) (hAt hs j) with
      | none =>
        rw [e] at hK3
        exact hK3 rfl _ ⟨_, _, rfl⟩
      | some w =>
        rw [e] at hR
        obtain ⟨a, b, rfl⟩ := pairF_some e
        refine ifs_t (S (some (.d (.int i))) (some (.d (.int j))) (some (.d (owlD (some [a, b])))) none) (fun K h => h) ?_
        have := hR _ rfl
        exact ⟨lineN rfl, lineN rfl, lineN rfl, lineN rfl, lineN rfl, tk this⟩
    · rw [e] at h
      exact h
  rintro _ ⟨hno, z2, z3, z4, rfl⟩
  rw [hno] at h
  refine seq_mid (fun m => (allT hs).findSome? (Fc hs) = none ∧ ∃ z2 z3 z4 z5, m = S z2 z3 z4 z5) (fun K hK => ?_) ?_
  · refine ⟨(sm hs.length hs.length (by omega) (by omega)).1, ?_⟩
    have eG : (allT hs).findSome? (Fc hs) = (List.range' 0 hs.length).findSome? fun i => (upTo hs.length i).findSome? fun j => (upTo hs.length j).findSome? fun k => Fc hs (pr3 hs i j k) := by
      unfold allT
      rw [find_flat]
      refine congrArg (fun f => List.findSome? f _) (funext fun i => ?_)
      rw [find_flat]
      refine congrArg (fun f => List.findSome? f _) (funext fun j => ?_)
      rw [find_flat]
      exact congrArg (fun f => List.findSome? f _) (funext fun k => find_one _ _)
    rw [eG] at h hK
    refine range_find (fun m => ∃ z2 z3 z4 z5, m = S z2 z3 z4 z5) (fun i => (upTo hs.length i).findSome? fun j => (upTo hs.length j).findSome? fun k => Fc hs (pr3 hs i j k)) (fun c => Q (.d (crtD c)) st) (hi := hs.length) ?_ hs.length 0 _ (by omega) ⟨_, _, _, none, rfl⟩ (fun c e => ?_) (fun e m' p' => hK m' ⟨e, p'⟩)
    · rintro i _ K2 hi ⟨z2, z3, z4, z5, rfl⟩ hR hK2
      refine ⟨sm (i + 1) hs.length (by omega) (by omega), ?_⟩
      show dLoop (.nm 3) _ _ none _ (rangeD (((i : Nat) : Int) + 1) (((hs.length : Nat) : Int) - (((i : Nat) : Int) + 1)).toNat) _
      rw [rg i hi]
      refine range_find (fun m => ∃ z3 z4 z5, m = S (some (.d (.int i))) z3 z4 z5) (fun j => (upTo hs.length j).findSome? fun k => Fc hs (pr3 hs i j k)) (fun c => Q (.d (crtD c)) st) (hi := hs.length) ?_ _ (i + 1) _ (by omega) ⟨z3, z4, z5, rfl⟩ hR (fun e m' ⟨z3', z4', z5', p'⟩ => hK2 e m' ⟨_, _, _, _, p'⟩)
      rintro j _ K3 hj ⟨z3, z4, z5, rfl⟩ hR hK3
      refine ⟨sm (j + 1) hs.length (by omega) (by omega), ?_⟩
      show dLoop (.nm 5) _ _ none _ (rangeD (((j : Nat) : Int) + 1) (((hs.length : Nat) : Int) - (((j : Nat) : Int) + 1)).toNat) _
      rw [rg j hj]
      refine range_find (fun m => ∃ z4 z5, m = S (some (.d (.int i))) (some (.d (.int j))) z4 z5) (fun k => Fc hs (pr3 hs i j k)) (fun c => Q (.d (crtD c)) st) (hi := hs.length) ?_ _ (j + 1) _ (by omega) ⟨z4, z5, rfl⟩ hR (fun e m' ⟨z4', z5', p'⟩ => hK3 e m' ⟨_, _, _, p'⟩)
      rintro k _ K4 hk ⟨z4, z5, rfl⟩ hR hK4
      rw [Fc3] at hR hK4
      refine seq_to (S (some (.d (.int i))) (some (.d (.int j))) (some (.d (owlD (threeF (hAt hs i) (hAt hs j) (hAt hs k))))) (some (.d (.int k)))) (fun K hK => ?_) ?_
      · refine rIx_mk (at_ i hi) ?_
        refine rIx_mk (at_ j hj) ?_
        refine rIx_mk (at_ k hk) ?_
        exact lthree_ok (pl i hi) (pl j hj) (pl k hk) hK
      cases e : threeF (hAt hs i) (hAt hs j) (hAt hs k) with
      | none =>
        rw [e] at hK4
        exact hK4 rfl _ ⟨_, _, rfl⟩
      | some w =>
        rw [e] at hR
        obtain ⟨a, b, c, rfl⟩ := threeF_some e
        refine ifs_t (S (some (.d (.int i))) (some (.d (.int j))) (some (.d (owlD (some [a, b, c])))) (some (.d (.int k)))) (fun K h => h) ?_
        have := hR _ rfl
        exact ⟨lineN rfl, lineN rfl, lineN rfl, lineN rfl, lineN rfl, lineN rfl, lineN rfl, tk this⟩
    · rw [e] at h
      exact h
  rintro _ ⟨hno, z2, z3, z4, z5, rfl⟩
  rw [hno] at h
  exact tk h
end
/-! the first certificate is one -/
theorem emptyB_cert (hs : List Hp3) : emptyB hs = (ecert hs).isSome := by
  unfold emptyB ecert
  rw [Option.isSome_map]
  generalize osets hs = l
  induction l with
  | nil => rfl
  | cons s l ih =>
    rw [List.any_cons, List.find?_cons]
    cases decide (numOf hs s < 0) with
    | true => rfl
    | false => exact ih
theorem ecert_os {hs : List Hp3} {c : Crt} (h : ecert hs = some c) : ∃ s, OS hs s ∧ numOf hs s < 0 ∧ c = (s.1.zip s.2).map fun p => ((p.1 : Int), (p.2 : Rat)) := by
  unfold ecert at h
  obtain ⟨s, h1, h2⟩ := Option.map_eq_some_iff.mp h
  have h3 := List.find?_some h1
  exact ⟨s, mem_osets.mp (List.mem_of_find?_eq_some h1), by simpa using h3, h2.symm⟩
theorem okC_of {hs : List Hp3} {i : Nat} {a : Int} (hi : i < hs.length) (ha : 0 < a) : okC hs ((i : Int), (a : Rat)) = true := by
  unfold okC
  rw [decide_eq_true (show (0 : Int) ≤ (i : Int) by omega), decide_eq_true (show (i : Int) < (hs.length : Int) by omega), decide_eq_true (cast_pos ha)]
  rfl
theorem ecert_ver {hs : List Hp3} {c : Crt} (hcert : ecert hs = some c) : verE hs c = true := by
  obtain ⟨s, hs', hn, ec⟩ := ecert_os hcert
  clear hcert
  subst ec
  have hn' := cast_neg hn
  have t : ∀ i : Nat, ((i : Int)).toNat = i := fun i => Int.toNat_natCast i
  cases hs' with
  | two i j a b h1 h2 h =>
    obtain ⟨_, _, pa, pb, _⟩ := oppW_some h
    obtain ⟨e1, e2⟩ := oppW_dep h
    rw [num2, Rat.intCast_add, castI, castI] at hn'
    have f : fineC hs ([((i : Int), (a : Rat)), ((j : Int), (b : Rat))]) = true := by
      unfold fineC
      rw [List.all_cons, List.all_cons, okC_of (by omega) pa, okC_of h2 pb]
      show (decide ((i : Int) < (j : Int)) && true && (true && (true && true))) = true
      rw [decide_eq_true (by omega)]
      rfl
    have s1 : (0 + (a : Rat) * ((hAt hs i).p : Rat)) + (b : Rat) * ((hAt hs j).p : Rat) = 0 := by grind
    have s2 : (0 + (a : Rat) * ((hAt hs i).q : Rat)) + (b : Rat) * ((hAt hs j).q : Rat) = 0 := by grind
    have s3 : (0 + (a : Rat) * ((hAt hs i).r : Rat)) + (b : Rat) * ((hAt hs j).r : Rat) < 0 := by grind
    show (fineC hs [((i : Int), (a : Rat)), ((j : Int), (b : Rat))] && _) = true
    rw [f]
    show (true && (decide ((0 + (a : Rat) * ((hAt hs i).p : Rat)) + (b : Rat) * ((hAt hs j).p : Rat) = 0) && (decide ((0 + (a : Rat) * ((hAt hs i).q : Rat)) + (b : Rat) * ((hAt hs j).q : Rat) = 0) && decide ((0 + (a : Rat) * ((hAt hs i).r : Rat)) + (b : Rat) * ((hAt hs j).r : Rat) < 0)))) = true
    rw [decide_eq_true s1, decide_eq_true s2, decide_eq_true s3]
    rfl
  | three i j k a b c h1 h2 h3 h =>
    obtain ⟨pa, pb, pc, _⟩ := triW_some h
    obtain ⟨e1, e2⟩ := triW_dep h
    rw [num3, Rat.intCast_add, Rat.intCast_add, castI, castI, castI] at hn'
    have f : fineC hs ([((i : Int), (a : Rat)), ((j : Int), (b : Rat)), ((k : Int), (c : Rat))]) = true := by
      unfold fineC
      rw [List.all_cons, List.all_cons, List.all_cons, okC_of (by omega) pa, okC_of (by omega) pb, okC_of h3 pc]
      show (decide ((i : Int) < (j : Int)) && (decide ((j : Int) < (k : Int)) && true) && (true && (true && (true && true)))) = true
      rw [decide_eq_true (by omega), decide_eq_true (by omega)]
      rfl
    have s1 : ((0 + (a : Rat) * ((hAt hs i).p : Rat)) + (b : Rat) * ((hAt hs j).p : Rat)) + (c : Rat) * ((hAt hs k).p : Rat) = 0 := by grind
    have s2 : ((0 + (a : Rat) * ((hAt hs i).q : Rat)) + (b : Rat) * ((hAt hs j).q : Rat)) + (c : Rat) * ((hAt hs k).q : Rat) = 0 := by grind
    have s3 : ((0 + (a : Rat) * ((hAt hs i).r : Rat)) + (b : Rat) * ((hAt hs j).r : Rat)) + (c : Rat) * ((hAt hs k).r : Rat) < 0 := by grind
    show (fineC hs [((i : Int), (a : Rat)), ((j : Int), (b : Rat)), ((k : Int), (c : Rat))] && _) = true
    rw [f]
    show (true && (decide (((0 + (a : Rat) * ((hAt hs i).p : Rat)) + (b : Rat) * ((hAt hs j).p : Rat)) + (c : Rat) * ((hAt hs k).p : Rat) = 0) && (decide (((0 + (a : Rat) * ((hAt hs i).q : Rat)) + (b : Rat) * ((hAt hs j).q : Rat)) + (c : Rat) * ((hAt hs k).q : Rat) = 0) && decide (((0 + (a : Rat) * ((hAt hs i).r : Rat)) + (b : Rat) * ((hAt hs j).r : Rat)) + (c : Rat) * ((hAt hs k).r : Rat) < 0)))) = true
    rw [decide_eq_true s1, decide_eq_true s2, decide_eq_true s3]
    rfl
theorem sh_crt {c : Crt} : Sh 3 (crtD c) := sh_lst (all_map fun _ _ => sh_tup (all_cons sh_int (all_cons sh_fr all_nil)))
theorem sh_ocrt {o : Option Crt} : Sh 3 (ocrtD o) := by
  cases o
  · exact sh_non
  · exact sh_crt
theorem isN_ocrt (o : Option Crt) : isN (ocrtD o) = !o.isSome := by cases o <;> rfl
theorem ecert_z {hs : List Hp3} (hp : ∀ g ∈ hs, HZ 4 g) {c : Crt} (h : ecert hs = some c) : (∀ p ∈ c, zb p.2 ≤ 8) ∧ c.length ≤ 3 := by
  obtain ⟨s, hs', hn, rfl⟩ := ecert_os h
  obtain ⟨y1, y2, y3, y4⟩ := os_z hp hs'
  refine ⟨fun p hm => ?_, ?_⟩
  · obtain ⟨q, hq, rfl⟩ := List.mem_map.mp hm
    have := y2 _ (List.of_mem_zip hq).2
    have := zb_int q.2
    dsimp only
    omega
  · rw [List.length_map, List.length_zip]
    omega
end PG

set_option maxRecDepth 100000
set_option maxHeartbeats 4000000
namespace PG
open PySem PySem.Spec PyProof.Rows L2 RT
/-! corners and middles -/
def act (hs : List Hp3) (x : Ray) : List Hp3 := hs.filter fun g => decide (valH g x = (g.r : Rat))
def midB (hs : List Hp3) (x : Ray) : Bool := (act hs x).all fun g => (act hs x).all fun k => decide (dt g k = 0)
theorem act_mem {hs : List Hp3} {x : Ray} {g : Hp3} : g ∈ act hs x ↔ g ∈ hs ∧ valH g x = g.r := by
  unfold act
  rw [List.mem_filter, decide_eq_true_iff]
/-- the program's insertion, as far as members go -/
def befR (a b : Ray) : Bool := if a.1 = b.1 then decide (a.2 < b.2) else decide (a.1 < b.1)
def putF (L : List Ray) (x : Ray) : List Ray := if x ∈ L then L else L.take (L.filter fun y => befR y x).length ++ [x] ++ L.drop (L.filter fun y => befR y x).length
theorem putF_mem {L : List Ray} {x y : Ray} : y ∈ putF L x ↔ y ∈ L ∨ y = x := by
  unfold putF
  split
  · rename_i h
    constructor
    · exact .inl
    · rintro (h' | rfl)
      · exact h'
      · exact h
  · generalize (L.filter fun y => befR y x).length = n
    rw [List.mem_append, List.mem_append, List.mem_singleton]
    constructor
    · rintro ((h | h) | h)
      · exact .inl (List.mem_of_mem_take h)
      · exact .inr h
      · exact .inl (List.mem_of_mem_drop h)
    · rintro (h | h)
      · have : y ∈ L.take n ++ L.drop n := by rw [List.take_append_drop]; exact h
        rcases List.mem_append.mp this with h | h
        · exact .inl (.inl h)
        · exact .inr h
      · exact .inl (.inr h)
theorem putF_len (L : List Ray) (x : Ray) : (putF L x).length ≤ L.length + 1 := by
  unfold putF
  split
  · omega
  · rw [List.length_append, List.length_append, List.length_singleton, List.length_take, List.length_drop]
    omega
def putM (hs : List Hp3) (g : Hp3) (L : List Ray) (k : Hp3) : List Ray := match meetR g k with
  | none => L
  | some x => if hs.all (hasH x) = true then putF L x else L
def corF (hs : List Hp3) : List Hp3 → List Ray → List Ray
  | [], L => L
  | g :: r, L => corF hs r (r.foldl (putM hs g) L)
theorem putM_mem {hs : List Hp3} {g : Hp3} {y : Ray} : ∀ {r : List Hp3} {L : List Ray}, y ∈ r.foldl (putM hs g) L ↔ y ∈ L ∨ (Rg hs y ∧ ∃ k ∈ r, meetR g k = some y)
  | [], L => by simp
  | k :: r, L => by
    rw [List.foldl_cons, putM_mem]
    have one : y ∈ putM hs g L k ↔ y ∈ L ∨ (Rg hs y ∧ meetR g k = some y) := by
      unfold putM
      cases e : meetR g k with
      | none =>
        constructor
        · exact .inl
        · rintro (h | ⟨_, h⟩)
          · exact h
          · cases h
      | some x =>
        dsimp only
        by_cases c : hs.all (hasH x) = true
        · rw [if_pos c, putF_mem]
          constructor
          · rintro (h | rfl)
            · exact .inl h
            · exact .inr ⟨all_has.mp c, rfl⟩
          · rintro (h | ⟨_, h⟩)
            · exact .inl h
            · exact .inr (Option.some.inj h).symm
        · rw [if_neg c]
          constructor
          · exact .inl
          · rintro (h | ⟨h1, h⟩)
            · exact h
            · rw [← Option.some.inj h] at h1
              exact (c (all_has.mpr h1)).elim
    rw [one]
    constructor
    · rintro ((h | ⟨h1, h2⟩) | ⟨h1, k', hk', h2⟩)
      · exact .inl h
      · exact .inr ⟨h1, k, List.mem_cons_self, h2⟩
      · exact .inr ⟨h1, k', List.mem_cons_of_mem _ hk', h2⟩
    · rintro (h | ⟨h1, k', hk', h2⟩)
      · exact .inl (.inl h)
      · rcases List.mem_cons.mp hk' with e | e
        · rw [e] at h2
          exact .inl (.inr ⟨h1, h2⟩)
        · exact .inr ⟨h1, k', e, h2⟩
theorem meet_swap {g k : Hp3} {x : Ray} (h : meetR g k = some x) : meetR k g = some x := by
  obtain ⟨h0, h1, h2⟩ := meet_val h
  refine meet_of (fun z => h0 ?_) h2 h1
  unfold dt at *
  have a := Int.mul_comm k.p g.q
  have b := Int.mul_comm k.q g.p
  omega
theorem cor_mem {hs : List Hp3} {y : Ray} : ∀ {r : List Hp3} {L : List Ray}, y ∈ corF hs r L ↔ y ∈ L ∨ (Rg hs y ∧ ∃ g ∈ r, ∃ k ∈ r, meetR g k = some y)
  | [], L => by
    unfold corF
    simp
  | g :: r, L => by
    unfold corF
    rw [cor_mem, putM_mem]
    constructor
    · rintro ((h | ⟨h1, k, hk, h2⟩) | ⟨h1, g', hg', k, hk, h2⟩)
      · exact .inl h
      · exact .inr ⟨h1, g, List.mem_cons_self, k, List.mem_cons_of_mem _ hk, h2⟩
      · exact .inr ⟨h1, g', List.mem_cons_of_mem _ hg', k, List.mem_cons_of_mem _ hk, h2⟩
    · rintro (h | ⟨h1, g', hg', k, hk, h2⟩)
      · exact .inl (.inl h)
      · rcases List.mem_cons.mp hg' with e | hg'
        · rcases List.mem_cons.mp hk with e' | hk
          · exfalso
            obtain ⟨h0, _, _⟩ := meet_val h2
            rw [e, e'] at h0
            refine h0 ?_
            unfold dt
            have := Int.mul_comm g.p g.q
            omega
          · rw [e] at h2
            exact .inl (.inr ⟨h1, k, hk, h2⟩)
        · rcases List.mem_cons.mp hk with e' | hk
          · rw [e'] at h2
            exact .inl (.inr ⟨h1, g', hg', meet_swap h2⟩)
          · exact .inr ⟨h1, g', hg', k, hk, h2⟩
def corners (hs : List Hp3) : List Ray := corF hs hs []
/-- a ray of the region is a corner just if it is not in the middle -/
theorem corner_mid {hs : List Hp3} {x : Ray} (hx : Rg hs x) : decide (x ∈ corners hs) = !midB hs x := by
  rw [Bool.eq_iff_iff, decide_eq_true_iff, Bool.not_eq_true', ← Bool.not_eq_true]
  unfold corners
  rw [cor_mem]
  constructor
  · rintro (h | ⟨_, g, hg, k, hk, h⟩) hm
    · cases h
    · obtain ⟨h0, h1, h2⟩ := meet_val h
      have := List.all_eq_true.mp (List.all_eq_true.mp hm g (act_mem.mpr ⟨hg, h1⟩)) k (act_mem.mpr ⟨hk, h2⟩)
      exact h0 (of_decide_eq_true this)
  · intro h
    refine .inr ⟨hx, Classical.byContradiction fun hno => h ?_⟩
    refine List.all_eq_true.mpr fun g hg => List.all_eq_true.mpr fun k hk => decide_eq_true (Classical.byContradiction fun h0 => hno ?_)
    obtain ⟨hg1, hg2⟩ := act_mem.mp hg
    obtain ⟨hk1, hk2⟩ := act_mem.mp hk
    exact ⟨g, hg1, k, hk1, meet_of h0 hg2 hk2⟩
/-! steps to both sides -/
def Dq (N : Int) (x : Ray) : Prop := ∃ D a b : Int, 0 < D ∧ D ≤ N ∧ (D : Rat) * x.1 = (a : Rat) ∧ (D : Rat) * x.2 = (b : Rat)
theorem divInt_mul {a d : Int} (h : d ≠ 0) : (d : Rat) * Rat.divInt a d = (a : Rat) := by
  have : (d : Rat) ≠ 0 := fun y => h (Rat.intCast_eq_zero_iff.mp y)
  rw [divI]
  generalize (d : Rat) = d at *
  grind
theorem cand_dq {hs : List Hp3} (hp : ∀ g ∈ hs, Pl g) : ∀ c ∈ cands hs, Dq 8 c := fun c hc => by
  rcases List.mem_cons.mp hc with rfl | hc
  · exact ⟨1, 0, 0, by decide, by decide, by decide +kernel, by decide +kernel⟩
  · obtain ⟨g, hg, hc⟩ := List.mem_flatMap.mp hc
    rcases List.mem_cons.mp hc with rfl | hc
    · obtain ⟨d1, d2⟩ := dot_ab (hp g hg)
      have hpos : 0 < dotI g g := by
        have := (hp g hg).1.pos
        exact Rat.intCast_pos.mp this
      exact ⟨dotI g g, _, _, hpos, by omega, divInt_mul d2, divInt_mul d2⟩
    · obtain ⟨k, hk, e⟩ := List.mem_filterMap.mp hc
      have d1 := dt_ab (hp g hg) (hp k hk)
      unfold meetR at e
      by_cases c0 : dt g k = 0
      · rw [if_pos c0] at e
        cases e
      · rw [if_neg c0] at e
        cases e
        rcases Int.lt_or_gt_of_ne c0 with h | h
        · refine ⟨-dt g k, -(g.r * k.q - k.r * g.q), -(g.p * k.r - k.p * g.r), by omega, by omega, ?_, ?_⟩
          · have := divInt_mul (a := g.r * k.q - k.r * g.q) c0
            rw [Rat.intCast_neg, Rat.intCast_neg]
            dsimp only
            grind
          · have := divInt_mul (a := g.p * k.r - k.p * g.r) c0
            rw [Rat.intCast_neg, Rat.intCast_neg]
            dsimp only
            grind
        · exact ⟨dt g k, _, _, h, by omega, divInt_mul c0, divInt_mul c0⟩
def half : Rat := Rat.divInt 1 2
def midP (x y : Ray) : Ray := (half * (x.1 + y.1), half * (x.2 + y.2))
theorem half_eq : half * 2 = 1 := by decide +kernel
theorem midP_dq {x y : Ray} : Dq 8 x → Dq 8 y → Dq 128 (midP x y) := fun ⟨D, a, b, h1, h2, e1, e2⟩ ⟨E, c, d, h3, h4, e3, e4⟩ => by
  have he := half_eq
  have hm : D * E ≤ 8 * 8 := Int.mul_le_mul h2 h4 (by omega) (by omega)
  have hpos : 0 < D * E := Int.mul_pos h1 h3
  refine ⟨2 * (D * E), a * E + c * D, b * E + d * D, by omega, by omega, ?_, ?_⟩
  · unfold midP
    dsimp only
    rw [castI, castI, Rat.intCast_add, castI, castI]
    have two : ((2 : Int) : Rat) = 2 := rfl
    rw [two, ← e1, ← e3]
    generalize (D : Rat) = D at *
    generalize (E : Rat) = E at *
    generalize half = h at *
    grind
  · unfold midP
    dsimp only
    rw [castI, castI, Rat.intCast_add, castI, castI]
    have two : ((2 : Int) : Rat) = 2 := rfl
    rw [two, ← e2, ← e4]
    generalize (D : Rat) = D at *
    generalize (E : Rat) = E at *
    generalize half = h at *
    grind
theorem midP_rg {hs : List Hp3} {x y : Ray} (hx : Rg hs x) (hy : Rg hs y) : Rg hs (midP x y) := fun g hg => by
  have a := hx g hg
  have b := hy g hg
  have he := half_eq
  have e : valH g (midP x y) = half * (valH g x + valH g y) := by
    unfold valH midP
    grind
  rw [e]
  have h0 : 0 ≤ half := by decide +kernel
  have w := mul_le (show valH g x + valH g y ≤ (g.r : Rat) + g.r by grind) h0
  have e3 : half * ((g.r : Rat) + g.r) = g.r := by
    have : half * ((g.r : Rat) + g.r) = (half * 2) * g.r := by grind
    rw [this, he]
    grind
  rw [e3] at w
  exact w
/-- what a half-plane leaves -/
theorem slack {g : Hp3} {x : Ray} (hq : Dq 128 x) (h : valH g x < g.r) : 1 ≤ 128 * ((g.r : Rat) - valH g x) := by
  obtain ⟨D, a, b, h1, h2, e1, e2⟩ := hq
  have e : (D : Rat) * ((g.r : Rat) - valH g x) = ((D * g.r - (g.p * a + g.q * b) : Int) : Rat) := by
    rw [Rat.intCast_sub, castI, Rat.intCast_add, castI, castI, ← e1, ← e2]
    unfold valH
    grind
  have D0 : (0 : Rat) < (D : Rat) := Rat.intCast_pos.mpr h1
  have s0 : 0 < (g.r : Rat) - valH g x := by grind
  have p := Rat.mul_pos D0 s0
  rw [e] at p
  have p1 : 1 ≤ D * g.r - (g.p * a + g.q * b) := by
    have := Rat.intCast_pos.mp p
    omega
  have p2 : (1 : Rat) ≤ ((D * g.r - (g.p * a + g.q * b) : Int) : Rat) := by
    have := Rat.intCast_le_intCast.mpr p1
    exact this
  rw [← e] at p2
  have D1 : (D : Rat) ≤ 128 := by
    have := Rat.intCast_le_intCast.mpr h2
    exact this
  have := mul_le D1 (Rat.le_of_lt s0)
  generalize (g.r : Rat) - valH g x = s at *
  grind
abbrev Wy2 := Int × Int
def stp (d : Wy2) (j : Nat) : Ray := (Rat.divInt d.1 (2 ^ j : Int), Rat.divInt d.2 (2 ^ j : Int))
def plusR (x y : Ray) : Ray := (x.1 + y.1, x.2 + y.2)
def minusR (x y : Ray) : Ray := (x.1 - y.1, x.2 - y.2)
def stepB (hs : List Hp3) (x : Ray) (d : Wy2) : Bool := (List.range' 1 30).any fun j => hs.all (hasH (plusR x (stp d j))) && hs.all (hasH (minusR x (stp d j)))
def dirL (hs : List Hp3) (x : Ray) : Wy2 := match act hs x with
  | [] => (1, 1)
  | g :: _ => (0 - g.q, g.p)
theorem stp_val {g : Hp3} {d : Wy2} {j : Nat} : valH g (stp d j) * (2 ^ j : Int) = ((g.p * d.1 + g.q * d.2 : Int) : Rat) := by
  have h : (2 ^ j : Int) ≠ 0 := by
    have : (0 : Int) < 2 ^ j := Int.pow_pos (by decide)
    omega
  have a := divInt_mul (a := d.1) h
  have b := divInt_mul (a := d.2) h
  unfold valH stp
  dsimp only
  rw [Rat.intCast_add, castI, castI, ← a, ← b]
  grind
theorem step_mid {hs : List Hp3} (hp : ∀ g ∈ hs, Pl g) {x : Ray} (hx : Rg hs x) (hq : Dq 128 x) : stepB hs x (dirL hs x) = midB hs x := by
  have vp : ∀ (g : Hp3) (y : Ray), valH g (plusR x y) = valH g x + valH g y := fun g y => by
    unfold valH plusR
    grind
  have vm : ∀ (g : Hp3) (y : Ray), valH g (minusR x y) = valH g x - valH g y := fun g y => by
    unfold valH minusR
    grind
  rw [Bool.eq_iff_iff]
  unfold stepB
  rw [List.any_eq_true]
  constructor
  · rintro ⟨j, hj, h⟩
    obtain ⟨h1, h2⟩ := Bool.and_eq_true_iff.mp h
    have h1 := all_has.mp h1
    have h2 := all_has.mp h2
    -- every active one is along the direction
    have flat : ∀ k ∈ act hs x, k.p * (dirL hs x).1 + k.q * (dirL hs x).2 = 0 := fun k hk => by
      obtain ⟨hk1, hk2⟩ := act_mem.mp hk
      have a := h1 k hk1
      have b := h2 k hk1
      rw [vp, hk2] at a
      rw [vm, hk2] at b
      have z : valH k (stp (dirL hs x) j) = 0 := by grind
      have := stp_val (g := k) (d := dirL hs x) (j := j)
      rw [z] at this
      have z0 : (0 : Rat) * ((2 ^ j : Int) : Rat) = 0 := by grind
      rw [z0] at this
      exact Rat.intCast_eq_zero_iff.mp this.symm
    unfold midB
    unfold dirL at flat
    cases e : act hs x with
    | nil => rfl
    | cons g0 r =>
      rw [e] at flat
      have hd0 : Dir g0 := (hp g0 (act_mem.mp (by rw [e]; exact List.mem_cons_self)).1).1
      refine List.all_eq_true.mpr fun g hg => List.all_eq_true.mpr fun k hk => decide_eq_true ?_
      have f1 := flat g hg
      have f2 := flat k hk
      dsimp only at f1 f2
      -- g and k are both along g0
      have n0 : (g0.p * g0.p + g0.q * g0.q) * dt g k = 0 := by
        unfold dt
        grind
      rcases Int.mul_eq_zero.mp n0 with z | z
      · exfalso
        have := hd0.pos
        unfold dotI at this
        rw [z] at this
        exact absurd this (by decide)
      · exact z
  · intro hm
    refine ⟨10, by decide, Bool.and_eq_true_iff.mpr ⟨all_has.mpr ?_, all_has.mpr ?_⟩⟩
    all_goals
      intro g hg
      have hv := stp_val (g := g) (d := dirL hs x) (j := 10)
      have e10 : ((2 ^ 10 : Int) : Rat) = 1024 := by decide +kernel
      rw [e10] at hv
      have hd : (dirL hs x).1.natAbs ≤ 2 ∧ (dirL hs x).2.natAbs ≤ 2 := by
        unfold dirL
        cases e : act hs x with
        | nil => exact ⟨by decide, by decide⟩
        | cons g0 r =>
          obtain ⟨_, a, b, _⟩ := hp g0 (act_mem.mp (by rw [e]; exact List.mem_cons_self)).1
          dsimp only
          omega
      by_cases c : valH g x = g.r
      · have hz : g.p * (dirL hs x).1 + g.q * (dirL hs x).2 = 0 := by
          have hga := act_mem.mpr ⟨hg, c⟩
          unfold dirL
          cases e : act hs x with
          | nil =>
            rw [e] at hga
            cases hga
          | cons g0 r =>
            have := List.all_eq_true.mp (List.all_eq_true.mp hm g hga) g0 (by rw [e]; exact List.mem_cons_self)
            have := of_decide_eq_true this
            unfold dt at this
            dsimp only
            have e1 : g.p * (0 - g0.q) = -(g.p * g0.q) := by rw [Int.zero_sub, Int.mul_neg]
            omega
        rw [hz] at hv
        have z0 : ((0 : Int) : Rat) = 0 := rfl
        rw [z0] at hv
        first
          | rw [vp]
          | rw [vm]
        grind
      · have hlt : valH g x < g.r := by
          have := hx g hg
          grind
        have hs' := slack hq hlt
        obtain ⟨_, p1, p2, _⟩ := hp g hg
        have m1 := mulAb p1 hd.1
        have m2 := mulAb p2 hd.2
        have u1 : g.p * (dirL hs x).1 + g.q * (dirL hs x).2 ≤ 8 := by omega
        have u2 : -8 ≤ g.p * (dirL hs x).1 + g.q * (dirL hs x).2 := by omega
        have w1 := Rat.intCast_le_intCast.mpr u1
        have w2 := Rat.intCast_le_intCast.mpr u2
        have e8 : ((8 : Int) : Rat) = 8 := rfl
        have e8' : ((-8 : Int) : Rat) = -8 := rfl
        rw [e8, ← hv] at w1
        rw [e8', ← hv] at w2
        first
          | rw [vp]
          | rw [vm]
        grind
end PG

set_option maxRecDepth 100000
set_option maxHeartbeats 4000000
namespace PG
open PySem PySem.Spec PyProof.Rows L2 RT
theorem nb_ray (r : Ray) : nb (rayD r) = true := rfl
theorem eqD_ray {a b : Ray} : eqD (rayD a) (rayD b) = decide (a = b) := by
  rw [Bool.eq_iff_iff, eqD_iff (nb_ray a) (nb_ray b), decide_eq_true_iff]
  constructor
  · intro e
    have e' : [fr a.1, fr a.2] = [fr b.1, fr b.2] := Dt.tup.inj e
    have e1 : fr a.1 = fr b.1 := (List.cons.inj e').1
    have e2 : fr a.2 = fr b.2 := (List.cons.inj (List.cons.inj e').2).1
    exact Prod.ext (fr_inj.mp e1) (fr_inj.mp e2)
  · intro e
    rw [e]
theorem any_ray {L : List Ray} {x : Ray} : ((L.map rayD).any fun z => eqD z (rayD x)) = decide (x ∈ L) := by
  rw [List.any_map, Bool.eq_iff_iff, List.any_eq_true, decide_eq_true_iff]
  constructor
  · rintro ⟨y, hy, e⟩
    have e' : eqD (rayD y) (rayD x) = true := e
    rw [eqD_ray, decide_eq_true_iff] at e'
    rw [← e']
    exact hy
  · intro h
    refine ⟨x, h, ?_⟩
    show eqD (rayD x) (rayD x) = true
    exact eqD_self _
theorem sh_rays {L : List Ray} : shD (.lst (L.map rayD)) := sh_ok (n := 3) (sh_lst (all_map fun _ _ => sh_ray))
theorem sgn_eq0 (x y : Rat) : sgn (x - y) = 0 ↔ x = y := by
  unfold sgn
  grind
theorem sgn_lt0 (x y : Rat) : sgn (x - y) < 0 ↔ x < y := by
  rw [sgn_neg]
  grind
section
variable {st : List Cell} {Q : Vl → List Cell → Prop} {hs : List Hp3} {n : Nat} {g k : Hp3} {x : Ray}
theorem meet_zn (hg : HZ n g) (hk : HZ n k) (h : meetR g k = some x) : zb x.1 ≤ 2 * n + 2 ∧ zb x.2 ≤ 2 * n + 2 := by
  have d0 := dt_z hg hk
  obtain ⟨g1, g2, g3⟩ := hg
  obtain ⟨k1, k2, k3⟩ := hk
  unfold meetR at h
  by_cases c : dt g k = 0
  · rw [if_pos c] at h
    cases h
  · rw [if_neg c] at h
    cases h
    have a1 := lgm (n := n) (m := n) g3 k2
    have a2 := lgm (n := n) (m := n) k3 g2
    have a3 := lgs (n := 2 * n - 3) (a := g.r * k.q) (b := k.r * g.q) (by omega) (by omega)
    have b1 := lgm (n := n) (m := n) g1 k3
    have b2 := lgm (n := n) (m := n) k1 g3
    have b3 := lgs (n := 2 * n - 3) (a := g.p * k.r) (b := k.p * g.r) (by omega) (by omega)
    have c1 := zb_divInt (n := g.r * k.q - k.r * g.q) c
    have c2 := zb_divInt (n := g.p * k.r - k.p * g.r) c
    dsimp only
    omega
theorem meeting_ok (hg : HZ n g) (hk : HZ n k) (hn : n ≤ 10000000) (h : Q (.d (oray (meetR g k))) st) : sp_meeting [.d (hpD g), .d (hpD k)] st Q := by
  have hg' := hg
  have hk' := hk
  obtain ⟨g1, g2, g3⟩ := hg
  obtain ⟨k1, k2, k3⟩ := hk
  unfold sp_meeting
  refine ⟨rfl, ?_⟩
  let S : Option Vl → Option Vl → Option Vl → M := fun z2 z3 z4 => ⟨[some (.d (hpD g)), some (.d (hpD k)), z2, z3, z4], st⟩
  refine seq_to (S (some (.d (.int (dt g k)))) none none) (fun K hK => det_ok hg' hk' hn hK) ?_
  unfold meetR at h
  by_cases c : dt g k = 0
  · rw [if_pos c] at h
    refine ifs_t (S (some (.d (.int (dt g k)))) none none) (fun K hK => ⟨rfl, rfl, ?_⟩) (tk h)
    show K (eqD (.int (dt g k)) (.int 0)) _
    rw [eqD_int, decide_eq_true c]
    exact hK
  · rw [if_neg c] at h
    refine guard_st (S (some (.d (.int (dt g k)))) none none) (fun K hK => ⟨rfl, rfl, ?_⟩) ?_
    · show K (eqD (.int (dt g k)) (.int 0)) _
      rw [eqD_int, decide_eq_false c]
      exact hK
    refine ⟨mulok (zm (by omega)), mulok (zm (by omega)), trivial, ?_⟩
    refine fraction_ok c ?_
    refine ⟨mulok (zm (by omega)), mulok (zm (by omega)), trivial, ?_⟩
    refine fraction_ok c ⟨lineN rfl, tk h⟩
theorem isbef_ok {a b : Ray} (h1 : zb a.1 ≤ n) (h2 : zb a.2 ≤ n) (h3 : zb b.1 ≤ n) (h4 : zb b.2 ≤ n) (hn : n ≤ 20000000) (h : Q (.d (.bl (befR a b))) st) : sp_is_before [.d (rayD a), .d (rayD b)] st Q := by
  unfold sp_is_before
  refine ⟨rfl, ?_⟩
  let S : Int → M := fun z2 => ⟨[some (.d (rayD a)), some (.d (rayD b)), some (.d (.int z2))], st⟩
  refine seq_to (S (sgn (a.1 - b.1))) (fun K hK => compare_ok (x := a.1) (y := b.1) (zm (by omega)) hK) ?_
  unfold befR at h
  refine seq_mid (fun m => ∃ z, decide (z < 0) = (if a.1 = b.1 then decide (a.2 < b.2) else decide (a.1 < b.1)) ∧ m = S z) (fun K hK => ?_) ?_
  · by_cases c : a.1 = b.1
    · refine ifs_t (S (sgn (a.1 - b.1))) (fun K hK => ⟨rfl, rfl, ?_⟩) ?_
      · show K (eqD (.int (sgn (a.1 - b.1))) (.int 0)) _
        rw [eqD_int, decide_eq_true ((sgn_eq0 _ _).mpr c)]
        exact hK
      · refine compare_ok (x := a.2) (y := b.2) (zm (by omega)) ?_
        exact hK _ ⟨sgn (a.2 - b.2), by rw [if_pos c]; exact decide_eq_decide.mpr (sgn_lt0 _ _), rfl⟩
    · refine guard_end (fun m => m = S (sgn (a.1 - b.1))) (fun K hK => ⟨rfl, rfl, ?_⟩) ?_
      · show K (eqD (.int (sgn (a.1 - b.1))) (.int 0)) _
        rw [eqD_int, decide_eq_false (fun z => c ((sgn_eq0 _ _).mp z))]
        exact hK _ rfl
      · rintro _ rfl
        exact hK _ ⟨sgn (a.1 - b.1), by rw [if_neg c]; exact decide_eq_decide.mpr (sgn_lt0 _ _), rfl⟩
  rintro _ ⟨z, e, rfl⟩
  rw [← e] at h
  exact ⟨trivial, tk h⟩
theorem put_ok {L : List Ray} (hL : ∀ y ∈ L, zb y.1 ≤ n ∧ zb y.2 ≤ n) (hx : zb x.1 ≤ n ∧ zb x.2 ≤ n) (hn : n ≤ 20000000) (hl : L.length ≤ 1000000) (h : Q (.d (.lst ((putF L x).map rayD))) st) : sp_put_in_order [.d (.lst (L.map rayD)), .d (rayD x)] st Q := by
  unfold sp_put_in_order
  refine ⟨rfl, ?_⟩
  let S : Option Vl → M := fun z2 => ⟨[some (.d (.lst (L.map rayD))), some (.d (rayD x)), z2, none], st⟩
  unfold putF at h
  have cnd : ∀ K : Bool → M → Prop, K (decide (x ∈ L)) (S none) → dTest (dOp (rIn false) (dVar 1) (dVar 0)) (S none) K := fun K hK => by
    refine ⟨sh_ok sh_ray, sh_rays, ?_⟩
    show K ((L.map rayD).any fun z => eqD z (rayD x)) _
    rw [any_ray]
    exact hK
  by_cases c : x ∈ L
  · rw [if_pos c] at h
    rw [decide_eq_true c] at cnd
    exact ifs_t (S none) (fun K hK => cnd K hK) (tk h)
  · rw [if_neg c] at h
    rw [decide_eq_false c] at cnd
    refine guard_st (S none) (fun K hK => cnd K hK) ?_
    obtain ⟨j, ej⟩ : ∃ j, (L.filter fun y => befR y x).length = j := ⟨_, rfl⟩
    rw [ej] at h
    have hj : j ≤ L.length := by
      rw [← ej]
      exact List.length_filter_le _ _
    refine seq_to (S (some (.d (.int j)))) (fun K hK => ?_) ?_
    · refine filt_ownM (lk := none) (f := rayD) (p := fun y => befR y x) (i := 3) trivial ?_ L [] (fun y hy P hP => ?_) (by rw [List.length_nil]; omega) ?_
      · exact Nat.lt_of_sub_eq_succ rfl
      · exact isbef_ok (hL y hy).1 (hL y hy).2 hx.1 hx.2 hn hP
      · rw [List.nil_append]
        show K ⟨[_, _, some (.d (.int (((L.filter fun y => befR y x).map rayD).length : Int))), _], _⟩
        rw [List.length_map, ej]
        exact hK
    · have e1 : RT.cutD (L.map rayD) none (some ((j : Nat) : Int)) = (L.take j).map rayD := by rw [cut_take _ _ (by rw [List.length_map]; exact hj), List.map_take]
      have e2 : RT.cutD (L.map rayD) (some ((j : Nat) : Int)) none = (L.drop j).map rayD := by rw [cut_drop _ _ (by rw [List.length_map]; exact hj), List.map_drop]
      have l1 : (L.take j).length = j := by rw [List.length_take]; omega
      have l2 : (L.drop j).length = L.length - j := List.length_drop
      refine ⟨slt rfl, ?_⟩
      show (RT.cutD (L.map rayD) none (some ((j : Nat) : Int))).length + [rayD x].length ≤ _ ∧ (_ ≤ _ ∧ _)
      rw [e1]
      refine ⟨by rw [List.length_map, l1]; show j + 1 ≤ 16777216; omega, ?_⟩
      show ((L.take j).map rayD ++ [rayD x]).length + (RT.cutD (L.map rayD) (some ((j : Nat) : Int)) none).length ≤ _ ∧ _
      refine ⟨?_, ?_⟩
      · rw [e2, List.length_append, List.length_map, List.length_map, l1, l2]
        show j + 1 + (L.length - j) ≤ 16777216
        omega
      · show Q (.d (.lst (((L.take j).map rayD ++ [rayD x]) ++ RT.cutD (L.map rayD) (some ((j : Nat) : Int)) none))) (st.take st.length)
        rw [e2]
        rw [List.map_append, List.map_append] at h
        exact tk h
theorem corners_ok (hg : ∀ g ∈ hs, HZ n g) (hn : n ≤ 1000000) (hl : hs.length ≤ 500) (h : Q (.d (.lst ((corners hs).map rayD))) st) : sp_corners [.d (.lst (hs.map hpD))] st Q := by
  unfold sp_corners
  refine ⟨rfl, ?_⟩
  have hg2 : ∀ g ∈ hs, HZ (2 * n + 2) g := fun g h => by
    have := hg g h
    unfold HZ at *
    omega
  let S : List Ray → Option Vl → Option Vl → Option Vl → Option Vl → M := fun L z2 z3 z4 z5 => ⟨[some (.d (.lst (hs.map hpD))), some (.d (.lst (L.map rayD))), z2, z3, z4, z5], st⟩
  refine seq_to (S [] none none none none) (fun K hK => ⟨lineN rfl, hK⟩) ?_
  refine seq_mid (fun m => ∃ z2 z3 z4 z5, m = S (corners hs) z2 z3 z4 z5) (fun K hK => ?_) ?_
  · refine enum_inv (fun k rest m => ∃ done L z2 z3 z4 z5, hs = done ++ rest ∧ k = done.length ∧ corF hs rest L = corners hs ∧ (∀ y ∈ L, zb y.1 ≤ 2 * n + 2 ∧ zb y.2 ≤ 2 * n + 2) ∧ L.length ≤ done.length * 500 ∧ m = S L z2 z3 z4 z5) ?_ ?_ _ 0 _ ⟨[], [], none, none, none, none, rfl, rfl, rfl, (fun y hy => nomatch hy), Nat.le_refl _, rfl⟩
    · rintro k g rest m K2 hK2 ⟨done, L, z2, z3, z4, z5, e1, rfl, e3, hL, hlen, rfl⟩
      have hgm : g ∈ hs := by rw [e1]; exact List.mem_append_right _ List.mem_cons_self
      have hrest : ∀ k ∈ rest, k ∈ hs := fun k hk => by rw [e1]; exact List.mem_append_right _ (List.mem_cons_of_mem _ hk)
      have hj : done.length + (rest.length + 1) = hs.length := by
        rw [e1, List.length_append, List.length_cons]
      have hdrop : hs.drop (done.length + 1) = rest := by
        rw [e1, List.drop_append]
        simp
      have e3' : corF hs rest (rest.foldl (putM hs g) L) = corners hs := e3
      show dLoop (.nm 4) _ (RT.cutD (hs.map hpD) (some (((done.length : Nat) : Int) + 1)) none) none _ (RT.cutD (hs.map hpD) (some (((done.length : Nat) : Int) + 1)) none) _
      have ec : RT.cutD (hs.map hpD) (some (((done.length : Nat) : Int) + 1)) none = rest.map hpD := by
        have := cut_drop (hs.map hpD) (done.length + 1) (by rw [List.length_map]; omega)
        rw [← List.map_drop, hdrop] at this
        exact this
      rw [ec]
      have dl : done.length * 500 ≤ 500 * 500 := Nat.mul_le_mul_right _ (by omega)
      refine each_inv (lk := none) hpD (fun r m => ∃ L2 z4 z5, (∀ k ∈ r, k ∈ hs) ∧ corF hs rest (r.foldl (putM hs g) L2) = corners hs ∧ (∀ y ∈ L2, zb y.1 ≤ 2 * n + 2 ∧ zb y.2 ≤ 2 * n + 2) ∧ L2.length + r.length ≤ done.length * 500 + 500 ∧ m = S L2 (some (.d (.int done.length))) (some (.d (hpD g))) z4 z5) (fun _ _ _ => trivial) ?_ ?_ rest _ ⟨L, z4, z5, hrest, e3', hL, by omega, rfl⟩
      · rintro k r _ K3 hK3 ⟨L2, z4, z5, hr, he, hL2, hl2, rfl⟩
        rw [List.length_cons] at hl2
        have hkm := hr k List.mem_cons_self
        have hr' := fun y hy => hr y (List.mem_cons_of_mem k hy)
        rw [List.foldl_cons] at he
        let T : List Ray → Option Ray → M := fun L2 o => S L2 (some (.d (.int done.length))) (some (.d (hpD g))) (some (.d (hpD k))) (some (.d (oray o)))
        refine seq_to (T L2 (meetR g k)) (fun K hK => meeting_ok (hg g hgm) (hg k hkm) (by omega) hK) ?_
        unfold putM at he
        cases em : meetR g k with
        | none =>
          rw [em] at he
          refine guard_end (fun m => m = T L2 none) (fun K hK => hK _ rfl) ?_
          rintro _ rfl
          exact hK3 _ ⟨L2, _, _, hr', he, hL2, by omega, rfl⟩
        | some y =>
          rw [em] at he
          dsimp only at he
          have hy := meet_zn (hg g hgm) (hg k hkm) em
          by_cases c : hs.all (hasH y) = true
          · rw [if_pos c] at he
            refine ifs_t (T L2 (some y)) (fun K hK => contains_ok (n := 2 * n + 2) hg2 hy.1 hy.2 (by omega) ?_) ?_
            · rw [c]
              exact hK
            · refine put_ok hL2 hy (by omega) (by omega) ?_
              have pl := putF_len L2 y
              refine hK3 _ ⟨putF L2 y, _, _, hr', he, fun z hz => ?_, by omega, rfl⟩
              rcases putF_mem.mp hz with h | h
              · exact hL2 z h
              · rw [h]
                exact hy
          · rw [if_neg c] at he
            refine guard_end (fun m => m = T L2 (some y)) (fun K hK => contains_ok (n := 2 * n + 2) hg2 hy.1 hy.2 (by omega) ?_) ?_
            · rw [show hs.all (hasH y) = false by simpa using c]
              exact hK _ rfl
            · rintro _ rfl
              exact hK3 _ ⟨L2, _, _, hr', he, hL2, by omega, rfl⟩
      · rintro _ ⟨L2, z4, z5, _, he, hL2, hl2, rfl⟩
        refine hK2 _ ⟨done ++ [g], L2, _, _, _, _, by rw [e1, List.append_assoc]; rfl, by rw [List.length_append, List.length_singleton], he, hL2, ?_, rfl⟩
        rw [List.length_append, List.length_singleton, Nat.add_mul]
        rw [List.length_nil] at hl2
        omega
    · rintro k _ ⟨done, L, z2, z3, z4, z5, e1, rfl, e3, hL, hlen, rfl⟩
      have e3' : L = corners hs := e3
      exact hK _ ⟨z2, z3, z4, z5, by rw [e3']⟩
  rintro _ ⟨z2, z3, z4, z5, rfl⟩
  exact tk h
end
end PG

set_option maxRecDepth 100000
set_option maxHeartbeats 4000000
namespace PG
open PySem PySem.Spec PyProof.Rows L2 RT
/-! what can be shown -/
structure Sw (k W : Nat) (d : Dt) : Prop where
  shw : (toPy d).showable = true
  itg : (toPy d).intsShort 13 = true
  lay : (toPy d).canLay0 = true
  dep : (toPy d).depth ≤ k
  wt : (toPy d).weight ≤ W
theorem log_10 {i : Int} (h : i.natAbs < 10 ^ 12) : i.natAbs.log2 ≤ 39 := log_le (n := 10 ^ 12) (by omega) (by decide)
theorem sw_int {i : Int} (h : i.natAbs < 10 ^ 12) : Sw 0 40 (.int i) := by
  have := log_10 h
  refine ⟨?_, ?_, rfl, Nat.le_refl _, ?_⟩
  · simp only [toPy, PyData.showable, decide_eq_true_eq]
    omega
  · simp only [toPy, PyData.intsShort, decide_eq_true_eq]
    exact PyData.shown_int_le h
  · simp only [toPy, PyData.weight]
    split <;> omega
theorem sw_all {k W : Nat} : ∀ {ds : List Dt}, (∀ d ∈ ds, Sw k W d) → PyData.showableAll (toPys ds) = true ∧ PyData.intsShortAll 13 (toPys ds) = true ∧ PyData.canLayAll0 (toPys ds) = true ∧ PyData.depthAll (toPys ds) ≤ k ∧ PyData.weightAll (toPys ds) ≤ ds.length * (W + 1)
  | [], _ => by simp [toPys, PyData.showableAll, PyData.intsShortAll, PyData.canLayAll0, PyData.depthAll, PyData.weightAll]
  | d :: ds, h => by
    obtain ⟨a1, a2, a3, a4, a5⟩ := h d List.mem_cons_self
    obtain ⟨b1, b2, b3, b4, b5⟩ := sw_all fun e he => h e (List.mem_cons_of_mem d he)
    refine ⟨?_, ?_, ?_, depths fun e he => (h e he).dep, ?_⟩
    · simp only [toPys, PyData.showableAll, a1, b1, Bool.and_self]
    · simp only [toPys, PyData.intsShortAll, a2, b2, Bool.and_self]
    · exact canLays fun e he => (h e he).lay
    · simp only [toPys, PyData.weightAll, List.length_cons, Nat.succ_mul]
      omega
theorem sw_lst {k W : Nat} {ds : List Dt} (h : ∀ d ∈ ds, Sw k W d) : Sw (k + 1) (ds.length * (W + 1)) (.lst ds) := by
  obtain ⟨b1, b2, b3, b4, b5⟩ := sw_all h
  refine ⟨?_, ?_, ?_, ?_, ?_⟩
  · simp only [toPy, PyData.showable]
    exact b1
  · simp only [toPy, PyData.intsShort]
    exact b2
  · simp only [toPy, PyData.canLay0]
    exact b3
  · simp only [toPy, PyData.depth]
    omega
  · simp only [toPy, PyData.weight]
    exact b5
theorem sw_tup {k W : Nat} {ds : List Dt} (h : ∀ d ∈ ds, Sw k W d) : Sw (k + 1) (ds.length * (W + 1)) (.tup ds) := by
  obtain ⟨b1, b2, b3, b4, b5⟩ := sw_all h
  refine ⟨?_, ?_, ?_, ?_, ?_⟩
  · simp only [toPy, PyData.showable]
    exact b1
  · simp only [toPy, PyData.intsShort]
    exact b2
  · simp only [toPy, PyData.canLay0]
    exact b3
  · simp only [toPy, PyData.depth]
    omega
  · simp only [toPy, PyData.weight]
    exact b5
theorem Sw.shows {k W : Nat} {d : Dt} (h : Sw k W d) (hk : k ≤ 60) (hW : W ≤ 1000000) : shows d := by
  refine ⟨h.shw, Nat.le_trans h.dep hk, ?_⟩
  have hl : PyData.layable0 (toPy d) = true := by
    unfold PyData.layable0
    rw [h.lay, decide_eq_true (show (toPy d).depth ≤ 64 by have := h.dep; omega), decide_eq_true (show (toPy d).weight ≤ 2 ^ 20 by have := h.wt; omega)]
    rfl
  exact PyData.shown_fits_of_layable0 (B := 13) (by decide) (by decide) hl h.itg
/-! half-planes in order -/
/-- .. by digits: without a common divisor -/
def Pg (g : Hp3) : Prop := Dir g ∧ gcd3 g.p g.q g.r = 1 ∧ g.p.natAbs ≤ 1000000 ∧ g.q.natAbs ≤ 1000000 ∧ g.r.natAbs ≤ 1000000
theorem Pg.z {g : Hp3} (h : Pg g) : HZ 30 g := by
  obtain ⟨_, _, h1, h2, h3⟩ := h
  have a := log_le (b := 20) h1 (by decide)
  have b := log_le (b := 20) h2 (by decide)
  have c := log_le (b := 20) h3 (by decide)
  exact ⟨by omega, by omega, by omega⟩
theorem sw_hp {g : Hp3} (h : Pg g) : Sw 1 123 (hpD g) := by
  obtain ⟨_, _, h1, h2, h3⟩ := h
  refine sw_tup (ds := [.int g.p, .int g.q, .int g.r]) (all_cons (sw_int ?_) (all_cons (sw_int ?_) (all_cons (sw_int ?_) all_nil)))
  · exact Nat.lt_of_le_of_lt h1 (by decide)
  · exact Nat.lt_of_le_of_lt h2 (by decide)
  · exact Nat.lt_of_le_of_lt h3 (by decide)
theorem sw_hps {L : List Hp3} (h : ∀ g ∈ L, Pg g) (hl : L.length ≤ 1000) : shows (.lst (L.map hpD)) := by
  have := sw_lst (ds := L.map hpD) (k := 1) (W := 123) (all_map fun g hg => sw_hp (h g hg))
  refine this.shows (by decide) ?_
  rw [List.length_map]
  omega
def hfB (g : Hp3) : Bool := decide (0 < g.q) || (decide (g.q = 0) && decide (0 < g.p))
def befK (g k : Hp3) : Bool := if hfB g ≠ hfB k then hfB g else if dt g k ≠ 0 then decide (0 < dt g k) else decide (g.r * n1 k < k.r * n1 g)
theorem hf_iff {g : Hp3} : hfB g = true ↔ 0 < g.q ∨ (g.q = 0 ∧ 0 < g.p) := by
  unfold hfB
  simp
theorem hf_not {g : Hp3} (hd : Dir g) : hfB g = false ↔ g.q < 0 ∨ (g.q = 0 ∧ g.p < 0) := by
  rw [← Bool.not_eq_true, hf_iff]
  have : ¬ (g.p = 0 ∧ g.q = 0) := hd
  omega
theorem dt_anti (g k : Hp3) : dt k g = -dt g k := by
  unfold dt
  have a := Int.mul_comm g.p k.q
  have b := Int.mul_comm g.q k.p
  omega
/-- one half, one line: one direction -/
theorem same_dir {g k : Hp3} (hg : Dir g) (hk : Dir k) (hh : hfB g = hfB k) (h0 : dt g k = 0) : n1 k * g.p = n1 g * k.p ∧ n1 k * g.q = n1 g * k.q := by
  unfold dt at h0
  unfold n1 ab
  cases e : hfB g with
  | true =>
    rw [e] at hh
    have a := hf_iff.mp e
    have b := hf_iff.mp hh.symm
    rcases a with a | ⟨a1, a2⟩
    · rcases b with b | ⟨b1, b2⟩
      · -- both with q > 0: p and p' of one sign
        rcases Int.lt_trichotomy g.p 0 with s | s | s
        · have s' : k.p < 0 := by
            by_cases c : k.p < 0
            · exact c
            · have := Int.mul_neg_of_neg_of_pos s b
              have := Int.mul_nonneg (show 0 ≤ g.q by omega) (show 0 ≤ k.p by omega)
              omega
          rw [if_pos s, if_pos s', if_neg (by omega), if_neg (by omega)]
          constructor <;> grind
        · rw [s] at h0
          have : k.p = 0 := by
            have : g.q * k.p = 0 := by omega
            rcases Int.mul_eq_zero.mp this with h | h
            · omega
            · exact h
          rw [s, this, if_neg (by omega), if_neg (by omega), if_neg (by omega)]
          constructor <;> grind
        · have s' : ¬ k.p < 0 := fun c => by
            have := Int.mul_pos s b
            have := Int.mul_neg_of_pos_of_neg (show 0 < g.q by omega) c
            omega
          rw [if_neg (show ¬ g.p < 0 by omega), if_neg s', if_neg (show ¬ g.q < 0 by omega), if_neg (show ¬ k.q < 0 by omega)]
          constructor <;> grind
      · rw [b1] at h0
        have := Int.mul_pos a b2
        omega
    · rcases b with b | ⟨b1, b2⟩
      · rw [a1] at h0
        have := Int.mul_pos a2 b
        omega
      · rw [a1, b1, if_neg (by omega), if_neg (by omega), if_neg (by omega)]
        constructor <;> grind
  | false =>
    rw [e] at hh
    have a := (hf_not hg).mp e
    have b := (hf_not hk).mp hh.symm
    rcases a with a | ⟨a1, a2⟩
    · rcases b with b | ⟨b1, b2⟩
      · rcases Int.lt_trichotomy g.p 0 with s | s | s
        · have s' : k.p < 0 := by
            by_cases c : k.p < 0
            · exact c
            · have := Int.mul_pos_of_neg_of_neg s b
              have := Int.mul_nonneg (show 0 ≤ -g.q by omega) (show 0 ≤ k.p by omega)
              rw [Int.neg_mul] at this
              omega
          rw [if_pos s, if_pos s', if_pos a, if_pos b]
          constructor <;> grind
        · rw [s] at h0
          have : k.p = 0 := by
            have : g.q * k.p = 0 := by omega
            rcases Int.mul_eq_zero.mp this with h | h
            · omega
            · exact h
          rw [s, this, if_neg (by omega), if_pos a, if_pos b]
          constructor <;> grind
        · have s' : ¬ k.p < 0 := fun c => by
            have := Int.mul_neg_of_pos_of_neg s b
            have := Int.mul_pos_of_neg_of_neg a c
            omega
          rw [if_neg (show ¬ g.p < 0 by omega), if_neg s', if_pos a, if_pos b]
          constructor <;> grind
      · rw [b1] at h0
        have := Int.mul_pos_of_neg_of_neg a b2
        omega
    · rcases b with b | ⟨b1, b2⟩
      · rw [a1] at h0
        have := Int.mul_pos_of_neg_of_neg a2 b
        omega
      · rw [a1, b1, if_pos a2, if_pos b2, if_neg (by omega)]
        constructor <;> grind
/-- without a common divisor the multiples are equal -/
theorem prim_eq {g k : Hp3} (hg : Pg g) (hk : Pg k) {m n : Int} (hm : 0 < m) (hn : 0 < n) (h1 : m * g.p = n * k.p) (h2 : m * g.q = n * k.q) (h3 : m * g.r = n * k.r) : g = k := by
  have e : m = n := by
    have a : ∀ {x y : Hp3} {u v : Int}, 0 < u → 0 < v → gcd3 x.p x.q x.r = 1 → u * x.p = v * y.p → u * x.q = v * y.q → u * x.r = v * y.r → v ∣ u := fun {x y u v} hu hv hx e1 e2 e3 => by
      have d1 : v ∣ u * x.p := ⟨_, e1⟩
      have d2 : v ∣ u * x.q := ⟨_, e2⟩
      have d3 : v ∣ u * x.r := ⟨_, e3⟩
      have c1 : v.natAbs ∣ u.natAbs * Int.gcd x.p x.q := by
        have a1 : v.natAbs ∣ u.natAbs * x.p.natAbs := by rw [← Int.natAbs_mul]; exact Int.natAbs_dvd_natAbs.mpr d1
        have a2 : v.natAbs ∣ u.natAbs * x.q.natAbs := by rw [← Int.natAbs_mul]; exact Int.natAbs_dvd_natAbs.mpr d2
        have := Nat.dvd_gcd a1 a2
        rw [Nat.gcd_mul_left] at this
        exact this
      have c2 : v.natAbs ∣ u.natAbs * x.r.natAbs := by rw [← Int.natAbs_mul]; exact Int.natAbs_dvd_natAbs.mpr d3
      have c3 := Nat.dvd_gcd c1 c2
      rw [Nat.gcd_mul_left] at c3
      have : Nat.gcd (Int.gcd x.p x.q) x.r.natAbs = 1 := by
        unfold gcd3 at hx
        have hx' : Int.gcd (Int.gcd x.p x.q : Int) x.r = 1 := by omega
        exact hx'
      rw [this, Nat.mul_one] at c3
      exact Int.natAbs_dvd_natAbs.mp c3
    have d1 := a hm hn hg.2.1 h1 h2 h3
    have d2 := a hn hm hk.2.1 h1.symm h2.symm h3.symm
    exact Int.dvd_antisymm (by omega) (by omega) d2 d1
  subst e
  have f : ∀ {x y : Int}, m * x = m * y → x = y := fun h => Int.eq_of_mul_eq_mul_left (by omega) h
  obtain ⟨gp, gq, gr⟩ := g
  obtain ⟨kp, kq, kr⟩ := k
  have e1 : gp = kp := f h1
  have e2 : gq = kq := f h2
  have e3 : gr = kr := f h3
  rw [e1, e2, e3]
theorem bef_half {g k : Hp3} (c : hfB g ≠ hfB k) : befK g k = hfB g := by
  unfold befK
  rw [if_pos c]
theorem bef_turn {g k : Hp3} (c : hfB g = hfB k) (c0 : dt g k ≠ 0) : befK g k = decide (0 < dt g k) := by
  unfold befK
  rw [if_neg (fun z => z c), if_pos c0]
theorem bef_reach {g k : Hp3} (c : hfB g = hfB k) (c0 : dt g k = 0) : befK g k = decide (g.r * n1 k < k.r * n1 g) := by
  unfold befK
  rw [if_neg (fun z => z c), if_neg (fun z => z c0)]
/-- never both -/
theorem bef_asymm {g k : Hp3} (h : befK g k = true) : befK k g = false := by
  have da := dt_anti g k
  by_cases c : hfB g = hfB k
  · by_cases c0 : dt g k = 0
    · rw [bef_reach c c0] at h
      rw [bef_reach c.symm (by omega)]
      have := of_decide_eq_true h
      exact decide_eq_false (by omega)
    · rw [bef_turn c c0] at h
      rw [bef_turn c.symm (by omega)]
      have := of_decide_eq_true h
      exact decide_eq_false (by omega)
  · rw [bef_half c] at h
    rw [bef_half (fun z => c z.symm)]
    cases e : hfB k with
    | false => rfl
    | true =>
      rw [h, e] at c
      exact (c rfl).elim
theorem bef_irrefl (g : Hp3) : befK g g = false := by
  cases e : befK g g with
  | false => rfl
  | true =>
    have := bef_asymm e
    rw [e] at this
    cases this
/-- one of both -/
theorem bef_total {g k : Hp3} (hg : Pg g) (hk : Pg k) (hne : g ≠ k) : befK g k = true ∨ befK k g = true := by
  have da := dt_anti g k
  by_cases c : hfB g = hfB k
  · by_cases c0 : dt g k = 0
    · rw [bef_reach c c0, bef_reach c.symm (by omega), decide_eq_true_iff, decide_eq_true_iff]
      obtain ⟨e1, e2⟩ := same_dir hg.1 hk.1 c c0
      have pg := n1_pos hg.1
      have pk := n1_pos hk.1
      refine Classical.byContradiction fun hno => hne (prim_eq hg hk pk pg e1 e2 ?_)
      have a := Int.mul_comm g.r (n1 k)
      have b := Int.mul_comm k.r (n1 g)
      omega
    · rw [bef_turn c c0, bef_turn c.symm (by omega), decide_eq_true_iff, decide_eq_true_iff]
      omega
  · rw [bef_half c, bef_half (fun z => c z.symm)]
    cases e : hfB g <;> cases e' : hfB k <;> simp_all
end PG

set_option maxRecDepth 100000
set_option maxHeartbeats 4000000
namespace PG
open PySem PySem.Spec PyProof.Rows L2 RT
theorem pos_of_mulI {a b : Int} (ha : 0 < a) (h : 0 < a * b) : 0 < b := by
  refine Classical.byContradiction fun c => ?_
  have := Int.mul_nonneg (show 0 ≤ a by omega) (show 0 ≤ -b by omega)
  rw [Int.mul_neg] at this
  omega
theorem turn_trans {gp gq kp kq lp lq : Int} (hg : 0 < gq ∨ (gq = 0 ∧ 0 < gp)) (hk : 0 < kq ∨ (kq = 0 ∧ 0 < kp)) (hl : 0 < lq ∨ (lq = 0 ∧ 0 < lp)) (h1 : 0 < gp * kq - gq * kp) (h2 : 0 < kp * lq - kq * lp) : 0 < gp * lq - gq * lp := by
  refine Classical.byContradiction fun hn => ?_
  have e1 : (kp * lq - kq * lp) * gq + (gp * kq - gq * kp) * lq = (gp * lq - gq * lp) * kq := by grind
  have e2 : (kp * lq - kq * lp) * gp + (gp * kq - gq * kp) * lp = (gp * lq - gq * lp) * kp := by grind
  generalize kp * lq - kq * lp = a at *
  generalize gp * kq - gq * kp = b at *
  generalize gp * lq - gq * lp = D at *
  have u1 : 0 ≤ a * gq := Int.mul_nonneg (by omega) (by omega)
  have u2 : 0 ≤ b * lq := Int.mul_nonneg (by omega) (by omega)
  have u3 : 0 ≤ (-D) * kq := Int.mul_nonneg (by omega) (by omega)
  rw [Int.neg_mul] at u3
  have z1 : a * gq = 0 := by omega
  have z2 : b * lq = 0 := by omega
  have z3 : D * kq = 0 := by omega
  have gq0 : gq = 0 := (Int.mul_eq_zero.mp z1).resolve_left (by omega)
  have lq0 : lq = 0 := (Int.mul_eq_zero.mp z2).resolve_left (by omega)
  have v1 := Int.mul_pos h2 (show 0 < gp by omega)
  have v2 := Int.mul_pos h1 (show 0 < lp by omega)
  have D0 : D ≠ 0 := fun z => by
    rw [z, Int.zero_mul] at e2
    omega
  have kq0 : kq = 0 := (Int.mul_eq_zero.mp z3).resolve_left D0
  have v3 := Int.mul_pos (show 0 < -D by omega) (show 0 < kp by omega)
  rw [Int.neg_mul] at v3
  omega
theorem dt_trans {g k l : Hp3} (hg : Dir g) (hk : Dir k) (hl : Dir l) (c1 : hfB g = hfB k) (c2 : hfB k = hfB l) (h1 : 0 < dt g k) (h2 : 0 < dt k l) : 0 < dt g l := by
  unfold dt at *
  cases e : hfB g with
  | true =>
    rw [e] at c1
    rw [← c1] at c2
    exact turn_trans (hf_iff.mp e) (hf_iff.mp c1.symm) (hf_iff.mp c2.symm) h1 h2
  | false =>
    rw [e] at c1
    rw [← c1] at c2
    have a := (hf_not hg).mp e
    have b := (hf_not hk).mp c1.symm
    have c := (hf_not hl).mp c2.symm
    have := turn_trans (gp := -g.p) (gq := -g.q) (kp := -k.p) (kq := -k.q) (lp := -l.p) (lq := -l.q) (by omega) (by omega) (by omega) (by rw [Int.neg_mul_neg, Int.neg_mul_neg]; exact h1) (by rw [Int.neg_mul_neg, Int.neg_mul_neg]; exact h2)
    rw [Int.neg_mul_neg, Int.neg_mul_neg] at this
    exact this
theorem bef_trans {g k l : Hp3} (hg : Dir g) (hk : Dir k) (hl : Dir l) (h1 : befK g k = true) (h2 : befK k l = true) : befK g l = true := by
  have pg := n1_pos hg
  have pk := n1_pos hk
  have pl := n1_pos hl
  by_cases c1 : hfB g = hfB k
  · by_cases c2 : hfB k = hfB l
    · have c3 : hfB g = hfB l := c1.trans c2
      by_cases d1 : dt g k = 0
      · obtain ⟨e1, e2⟩ := same_dir hg hk c1 d1
        have key : n1 k * dt g l = n1 g * dt k l := by
          unfold dt
          grind
        by_cases d2 : dt k l = 0
        · rw [bef_reach c1 d1, decide_eq_true_iff] at h1
          rw [bef_reach c2 d2, decide_eq_true_iff] at h2
          have d3 : dt g l = 0 := by
            rw [d2, Int.mul_zero] at key
            exact (Int.mul_eq_zero.mp key).resolve_left (by omega)
          rw [bef_reach c3 d3, decide_eq_true_iff]
          -- r_g n_k n_l < r_k n_g n_l < r_l n_k n_g
          have w1 := Int.mul_lt_mul_of_pos_right h1 pl
          have w2 := Int.mul_lt_mul_of_pos_right h2 pg
          have w3 : g.r * n1 l * n1 k < l.r * n1 g * n1 k := by
            have a1 : g.r * n1 k * n1 l = g.r * n1 l * n1 k := by grind
            have a2 : k.r * n1 g * n1 l = k.r * n1 l * n1 g := by grind
            have a3 : l.r * n1 k * n1 g = l.r * n1 g * n1 k := by grind
            omega
          exact Int.lt_of_mul_lt_mul_right w3 (by omega)
        · rw [bef_turn c2 d2, decide_eq_true_iff] at h2
          have v := Int.mul_pos pg h2
          rw [← key] at v
          have : 0 < dt g l := pos_of_mulI pk v
          rw [bef_turn c3 (by omega), decide_eq_true_iff]
          exact this
      · rw [bef_turn c1 d1, decide_eq_true_iff] at h1
        by_cases d2 : dt k l = 0
        · obtain ⟨e1, e2⟩ := same_dir hk hl c2 d2
          have key : n1 k * dt g l = n1 l * dt g k := by
            unfold dt
            grind
          have v := Int.mul_pos pl h1
          rw [← key] at v
          have : 0 < dt g l := pos_of_mulI pk v
          rw [bef_turn c3 (by omega), decide_eq_true_iff]
          exact this
        · rw [bef_turn c2 d2, decide_eq_true_iff] at h2
          have := dt_trans hg hk hl c1 c2 h1 h2
          rw [bef_turn c3 (by omega), decide_eq_true_iff]
          exact this
    · rw [bef_half c2] at h2
      have c3 : hfB g ≠ hfB l := fun z => c2 (c1.symm.trans z)
      rw [bef_half c3, c1]
      exact h2
  · rw [bef_half c1] at h1
    have kf : hfB k = false := by
      cases e : hfB k with
      | false => rfl
      | true =>
        rw [h1, e] at c1
        exact (c1 rfl).elim
    have c2 : hfB k = hfB l := by
      refine Classical.byContradiction fun c2 => ?_
      rw [bef_half c2, kf] at h2
      cases h2
    have c3 : hfB g ≠ hfB l := by
      rw [← c2]
      exact c1
    rw [bef_half c3]
    exact h1
/-! lists in order -/
def Srt (l : List Hp3) : Prop := l.Pairwise fun a b => befK a b = true
theorem srt_uniq : ∀ {l1 l2 : List Hp3}, Srt l1 → Srt l2 → (∀ x, x ∈ l1 ↔ x ∈ l2) → l1 = l2
  | [], [], _, _, _ => rfl
  | [], b :: r2, _, _, h => by
    have := (h b).mpr List.mem_cons_self
    cases this
  | a :: r1, [], _, _, h => by
    have := (h a).mp List.mem_cons_self
    cases this
  | a :: r1, b :: r2, s1, s2, h => by
    obtain ⟨p1, q1⟩ := List.pairwise_cons.mp s1
    obtain ⟨p2, q2⟩ := List.pairwise_cons.mp s2
    have hab : a = b := by
      rcases List.mem_cons.mp ((h a).mp List.mem_cons_self) with e | e
      · exact e
      · rcases List.mem_cons.mp ((h b).mpr List.mem_cons_self) with e' | e'
        · exact e'.symm
        · have x := p2 a e
          have y := bef_asymm (p1 b e')
          rw [x] at y
          cases y
    subst hab
    have ir : ∀ x, befK a x = true → x ≠ a := fun x hx e => by
      rw [e, bef_irrefl] at hx
      cases hx
    rw [srt_uniq q1 q2 fun x => ?_]
    constructor
    · intro hx
      rcases List.mem_cons.mp ((h x).mp (List.mem_cons_of_mem _ hx)) with e | e
      · exact (ir x (p1 x hx) e).elim
      · exact e
    · intro hx
      rcases List.mem_cons.mp ((h x).mpr (List.mem_cons_of_mem _ hx)) with e | e
      · exact (ir x (p2 x hx) e).elim
      · exact e
def insK (L : List Hp3) (g : Hp3) : List Hp3 := if g ∈ L then L else L.take (L.filter fun y => befK y g).length ++ [g] ++ L.drop (L.filter fun y => befK y g).length
theorem insK_mem {L : List Hp3} {g y : Hp3} : y ∈ insK L g ↔ y ∈ L ∨ y = g := by
  unfold insK
  split
  · rename_i h
    constructor
    · exact .inl
    · rintro (h' | rfl)
      · exact h'
      · exact h
  · generalize (L.filter fun y => befK y g).length = n
    rw [List.mem_append, List.mem_append, List.mem_singleton]
    constructor
    · rintro ((h | h) | h)
      · exact .inl (List.mem_of_mem_take h)
      · exact .inr h
      · exact .inl (List.mem_of_mem_drop h)
    · rintro (h | h)
      · have : y ∈ L.take n ++ L.drop n := by rw [List.take_append_drop]; exact h
        rcases List.mem_append.mp this with h | h
        · exact .inl (.inl h)
        · exact .inr h
      · exact .inl (.inr h)
theorem insK_len (L : List Hp3) (g : Hp3) : (insK L g).length ≤ L.length + 1 := by
  unfold insK
  split
  · omega
  · rw [List.length_append, List.length_append, List.length_singleton, List.length_take, List.length_drop]
    omega
/-- the place of a new one in a list in order -/
theorem srt_place {g : Hp3} (hg : Pg g) : ∀ {L : List Hp3}, Srt L → (∀ y ∈ L, Pg y) → g ∉ L → Srt (L.take (L.filter fun y => befK y g).length ++ [g] ++ L.drop (L.filter fun y => befK y g).length)
  | [], _, _, _ => List.pairwise_singleton ..
  | a :: r, s, hp, hn => by
    obtain ⟨p1, q1⟩ := List.pairwise_cons.mp s
    have pa := hp a List.mem_cons_self
    have hpr := fun y hy => hp y (List.mem_cons_of_mem a hy)
    have hne : g ≠ a := fun e => hn (by rw [e]; exact List.mem_cons_self)
    have hnr : g ∉ r := fun e => hn (List.mem_cons_of_mem _ e)
    cases c : befK a g with
    | true =>
      rw [List.filter_cons, if_pos c, List.length_cons, List.take_succ_cons, List.drop_succ_cons]
      refine List.pairwise_cons.mpr ⟨fun y hy => ?_, srt_place hg q1 hpr hnr⟩
      have hy' : y ∈ insK r g := by
        unfold insK
        rw [if_neg hnr]
        exact hy
      rcases insK_mem.mp hy' with h | h
      · exact p1 y h
      · rw [h]
        exact c
    | false =>
      have ga : befK g a = true := by
        rcases bef_total hg pa hne with h | h
        · exact h
        · rw [h] at c
          cases c
      have f0 : ((a :: r).filter fun y => befK y g) = [] := by
        rw [List.filter_eq_nil_iff]
        intro y hy hb
        rcases List.mem_cons.mp hy with e | e
        · rw [e, c] at hb
          cases hb
        · have := bef_asymm (bef_trans hg.1 pa.1 (hpr y e).1 ga (p1 y e))
          rw [hb] at this
          cases this
      rw [f0]
      refine List.pairwise_cons.mpr ⟨fun y hy => ?_, s⟩
      rcases List.mem_cons.mp hy with e | e
      · rw [e]
        exact ga
      · exact bef_trans hg.1 pa.1 (hpr y e).1 ga (p1 y e)
theorem insK_srt {L : List Hp3} {g : Hp3} (hg : Pg g) (s : Srt L) (hp : ∀ y ∈ L, Pg y) : Srt (insK L g) := by
  unfold insK
  by_cases c : g ∈ L
  · rw [if_pos c]
    exact s
  · rw [if_neg c]
    exact srt_place hg s hp c
def inOrd (L : List Hp3) : List Hp3 := L.foldl insK []
theorem foldl_ins : ∀ {r L : List Hp3}, (∀ g ∈ r, Pg g) → (∀ g ∈ L, Pg g) → Srt L → Srt (r.foldl insK L) ∧ (∀ x, x ∈ r.foldl insK L ↔ x ∈ L ∨ x ∈ r) ∧ (r.foldl insK L).length ≤ L.length + r.length
  | [], L, _, _, s => ⟨s, fun x => by simp, Nat.le_refl _⟩
  | g :: r, L, hr, hL, s => by
    have hg := hr g List.mem_cons_self
    obtain ⟨s1, m1, l1⟩ := foldl_ins (r := r) (L := insK L g) (fun y hy => hr y (List.mem_cons_of_mem _ hy)) (fun y hy => by
      rcases insK_mem.mp hy with h | h
      · exact hL y h
      · rw [h]
        exact hg) (insK_srt hg s hL)
    refine ⟨s1, fun x => ?_, ?_⟩
    · rw [List.foldl_cons, m1, insK_mem, List.mem_cons, or_assoc]
    · rw [List.foldl_cons, List.length_cons]
      have := insK_len L g
      omega
theorem inOrd_spec {L : List Hp3} (h : ∀ g ∈ L, Pg g) : Srt (inOrd L) ∧ (∀ x, x ∈ inOrd L ↔ x ∈ L) ∧ (inOrd L).length ≤ L.length := by
  obtain ⟨a, b, c⟩ := foldl_ins (r := L) (L := []) h (fun _ h => nomatch h) List.Pairwise.nil
  unfold inOrd
  exact ⟨a, fun x => by
    have := b x
    simpa using this, by simpa using c⟩
end PG

set_option maxRecDepth 100000
set_option maxHeartbeats 4000000
namespace PG
open PySem PySem.Spec PyProof.Rows L2 RT
theorem eqD_hp {a b : Hp3} : eqD (hpD a) (hpD b) = decide (a = b) := by
  rw [Bool.eq_iff_iff, eqD_iff rfl rfl, decide_eq_true_iff]
  constructor
  · intro e
    have e' : [Dt.int a.p, Dt.int a.q, Dt.int a.r] = [Dt.int b.p, Dt.int b.q, Dt.int b.r] := Dt.tup.inj e
    simp at e'
    obtain ⟨ap, aq, ar⟩ := a
    obtain ⟨bp, bq, br⟩ := b
    dsimp only at e'
    rw [e'.1, e'.2.1, e'.2.2]
  · intro e
    rw [e]
theorem any_hp {L : List Hp3} {x : Hp3} : ((L.map hpD).any fun z => eqD z (hpD x)) = decide (x ∈ L) := by
  rw [List.any_map, Bool.eq_iff_iff, List.any_eq_true, decide_eq_true_iff]
  constructor
  · rintro ⟨y, hy, e⟩
    have e' : eqD (hpD y) (hpD x) = true := e
    rw [eqD_hp, decide_eq_true_iff] at e'
    rw [← e']
    exact hy
  · intro h
    refine ⟨x, h, ?_⟩
    show eqD (hpD x) (hpD x) = true
    exact eqD_self _
theorem sh_hp {g : Hp3} : Sh 1 (hpD g) := sh_tup (all_cons sh_int (all_cons sh_int (all_cons sh_int all_nil)))
theorem sh_hps {L : List Hp3} : shD (.lst (L.map hpD)) := sh_ok (n := 2) (sh_lst (all_map fun _ _ => sh_hp))
theorem dlt {a b c d : Int} (hb : 0 < b) (hd : 0 < d) : Rat.divInt a b < Rat.divInt c d ↔ a * d < c * b := by
  have e1 := divInt_mul (a := a) (d := b) (by omega)
  have e2 := divInt_mul (a := c) (d := d) (by omega)
  have pb : (0 : Rat) < (b : Rat) := Rat.intCast_pos.mpr hb
  have pd : (0 : Rat) < (d : Rat) := Rat.intCast_pos.mpr hd
  have h : a * d < c * b ↔ ((a * d : Int) : Rat) < ((c * b : Int) : Rat) := Rat.intCast_lt_intCast.symm
  rw [h, castI, castI, ← e1, ← e2]
  generalize Rat.divInt a b = x at *
  generalize Rat.divInt c d = y at *
  have pbd := Rat.mul_pos pb pd
  constructor
  · intro h
    have := Rat.mul_pos pbd (show 0 < y - x by grind)
    grind
  · intro h
    refine Classical.byContradiction fun c => ?_
    have := mul_le (show y ≤ x by grind) (Rat.le_of_lt pbd)
    grind
section
variable {st : List Cell} {Q : Vl → List Cell → Prop} {g k : Hp3}
theorem pg_mul {a b : Int} (h1 : a.natAbs ≤ 10000000) (h2 : b.natAbs ≤ 10000000) : MulOk a b := by
  have := log_le (b := 30) h1 (by decide)
  have := log_le (b := 30) h2 (by decide)
  exact mulok (zm (by omega))
theorem Pg.ab (h : Pg g) : g.p.natAbs ≤ 10000000 ∧ g.q.natAbs ≤ 10000000 ∧ g.r.natAbs ≤ 10000000 ∧ 0 < n1 g ∧ (n1 g).natAbs ≤ 10000000 := by
  have := n1_pos h.1
  obtain ⟨_, _, a, b, c⟩ := h
  unfold n1 at *
  rw [ab_nat, ab_nat] at *
  omega
theorem cross_ok (hg : Pg g) (hk : Pg k) (h : Q (.d (.int (dt g k))) st) : sp_cross [.d (hpD g), .d (hpD k)] st Q := by
  obtain ⟨a1, b1, c1, _⟩ := hg.ab
  obtain ⟨a2, b2, c2, _⟩ := hk.ab
  unfold sp_cross
  exact ⟨rfl, pg_mul a1 b2, pg_mul b1 a2, trivial, tk h⟩
theorem lcross_ok (hg : Pg g) (hk : Pg k) (h : Q (.d (.int (dt g k))) st) : sp__law_cross [.d (hpD g), .d (hpD k)] st Q := by
  obtain ⟨a1, b1, c1, _⟩ := hg.ab
  obtain ⟨a2, b2, c2, _⟩ := hk.ab
  unfold sp__law_cross
  exact ⟨rfl, pg_mul a1 b2, pg_mul b1 a2, trivial, tk h⟩
theorem dot_ok (hg : Pg g) (hk : Pg k) (h : Q (.d (.int (dotI g k))) st) : sp_dot [.d (hpD g), .d (hpD k)] st Q := by
  obtain ⟨a1, b1, c1, _⟩ := hg.ab
  obtain ⟨a2, b2, c2, _⟩ := hk.ab
  unfold sp_dot
  exact ⟨rfl, pg_mul a1 a2, pg_mul b1 b2, tk h⟩
def oppH (g : Hp3) : Hp3 := ⟨-g.p, -g.q, -g.r⟩
theorem opp_ok (h : Q (.d (hpD (oppH g))) st) : sp_opposite [.d (hpD g)] st Q := by
  unfold sp_opposite
  exact ⟨rfl, lineN rfl, tk h⟩
theorem lopp_ok (h : Q (.d (hpD (oppH g))) st) : sp__law_opposite [.d (hpD g)] st Q := by
  unfold sp__law_opposite
  exact ⟨rfl, lineN rfl, tk h⟩
theorem reach_ok (hg : Pg g) (h : Q (.d (fr (Rat.divInt g.r (n1 g)))) st) : sp_reach [.d (hpD g)] st Q := by
  have := hg.ab
  unfold sp_reach
  exact ⟨rfl, fraction_ok (d := n1 g) (by omega) (tk h)⟩
theorem hf_ok (h : Q (.d (.bl (hfB g))) st) : sp_in_first_half [.d (hpD g)] st Q := by
  unfold sp_in_first_half
  refine ⟨rfl, trivial, ?_⟩
  unfold hfB at h
  show if decide (0 < g.q) = true then _ else _
  cases c : decide (0 < g.q) with
  | true =>
    rw [c, Bool.true_or] at h
    exact tk h
  | false =>
    rw [c, Bool.false_or] at h
    refine ⟨rfl, rfl, ?_⟩
    show if eqD (.int g.q) (.int 0) = true then _ else _
    rw [eqD_int]
    cases c2 : decide (g.q = 0) with
    | true =>
      rw [c2, Bool.true_and] at h
      exact ⟨trivial, tk h⟩
    | false =>
      rw [c2, Bool.false_and] at h
      exact tk h
theorem reach_lt (hg : Pg g) (hk : Pg k) : decide (sgn (Rat.divInt g.r (n1 g) - Rat.divInt k.r (n1 k)) < 0) = decide (g.r * n1 k < k.r * n1 g) := by
  obtain ⟨_, _, _, p1, _⟩ := hg.ab
  obtain ⟨_, _, _, p2, _⟩ := hk.ab
  refine decide_eq_decide.mpr ?_
  rw [sgn_lt0, dlt p1 p2]
theorem reach_z (hg : Pg g) : zb (Rat.divInt g.r (n1 g)) ≤ 40 := by
  obtain ⟨_, _, c, p1, n⟩ := hg.ab
  have := zb_divInt (n := g.r) (d := n1 g) (by omega)
  have := log_le (b := 30) c (by decide)
  have := log_le (b := 30) n (by decide)
  omega
theorem before_ok (hg : Pg g) (hk : Pg k) (h : Q (.d (.bl (befK g k))) st) : sp_comes_before [.d (hpD g), .d (hpD k)] st Q := by
  unfold sp_comes_before
  refine ⟨rfl, ?_⟩
  let S : Option Vl → M := fun z => ⟨[some (.d (hpD g)), some (.d (hpD k)), z], st⟩
  have cnd : ∀ K : Bool → M → Prop, K (!(hfB g == hfB k)) (S none) → dTest (dOp RT.rNe (dCall PG.sp_in_first_half [] (dCons (dVar 0) dNil)) (dCall PG.sp_in_first_half [] (dCons (dVar 1) dNil))) (S none) K := fun K hK => by
    refine hf_ok ?_
    refine hf_ok ⟨rfl, rfl, ?_⟩
    show K (!eqD (.bl (hfB g)) (.bl (hfB k))) _
    rw [eqD_bl]
    exact hK
  by_cases c : hfB g = hfB k
  · have e : (hfB g == hfB k) = true := by rw [c]; exact beq_self_eq_true _
    rw [e] at cnd
    refine guard_st (S none) (fun K hK => cnd K hK) ?_
    refine seq_to (S (some (.d (.int (dt g k))))) (fun K hK => cross_ok hg hk hK) ?_
    by_cases c0 : dt g k = 0
    · rw [bef_reach c c0] at h
      refine guard_st (S (some (.d (.int (dt g k))))) (fun K hK => ⟨rfl, rfl, ?_⟩) ?_
      · show K (!eqD (.int (dt g k)) (.int 0)) _
        rw [eqD_int, decide_eq_true c0]
        exact hK
      have z1 := reach_z hg
      have z2 := reach_z hk
      refine reach_ok hg ?_
      refine reach_ok hk ?_
      refine compare_ok (zm (by omega)) ⟨trivial, ?_⟩
      rw [← reach_lt hg hk] at h
      exact tk h
    · rw [bef_turn c c0] at h
      refine ifs_t (S (some (.d (.int (dt g k))))) (fun K hK => ⟨rfl, rfl, ?_⟩) ⟨trivial, tk h⟩
      show K (!eqD (.int (dt g k)) (.int 0)) _
      rw [eqD_int, decide_eq_false c0]
      exact hK
  · have e : (hfB g == hfB k) = false := by simpa using c
    rw [e] at cnd
    rw [bef_half c] at h
    exact ifs_t (S none) (fun K hK => cnd K hK) (hf_ok (tk h))
theorem lbefore_ok (hg : Pg g) (hk : Pg k) (h : Q (.d (.bl (befK g k))) st) : sp__law_before [.d (hpD g), .d (hpD k)] st Q := by
  unfold sp__law_before
  refine ⟨rfl, ?_⟩
  let hv : Hp3 → Int := fun x => if (decide (x.q < 0) || (decide (x.q = 0) && decide (x.p < 0))) = true then 1 else 0
  have hve : ∀ x : Hp3, Dir x → hv x = if hfB x = true then 0 else 1 := fun x hx => by
    dsimp only [hv]
    cases e : hfB x with
    | true =>
      have := hf_iff.mp e
      rw [if_neg (by simp; omega), if_pos rfl]
    | false =>
      have := (hf_not hx).mp e
      rw [if_pos (by simp; omega), if_neg (by decide)]
  let S : Option Vl → Option Vl → Option Vl → M := fun z2 z3 z4 => ⟨[some (.d (hpD g)), some (.d (hpD k)), z2, z3, z4, none], st⟩
  refine seq_to (S (some (.d (.lst [.int (hv g), .int (hv k)]))) none none) (fun K hK => ?_) ?_
  · refine dlc_map hpD (fun x => Dt.int (hv x)) (xs := [g, k]) (fun K2 h2 => ⟨slt rfl, h2⟩) (fun x hx C hC => ?_) (Nat.le_of_ble_eq_true rfl) hK
    refine ⟨trivial, ?_⟩
    show if decide (x.q < 0) = true then _ else _
    dsimp only [hv] at hC
    cases c : decide (x.q < 0) with
    | true =>
      rw [c, Bool.true_or] at hC
      exact hC _
    | false =>
      rw [c, Bool.false_or] at hC
      refine ⟨rfl, rfl, ?_⟩
      show if eqD (.int x.q) (.int 0) = true then _ else _
      rw [eqD_int]
      cases c2 : decide (x.q = 0) with
      | true =>
        rw [c2, Bool.true_and] at hC
        exact ⟨trivial, hC _⟩
      | false =>
        rw [c2, Bool.false_and] at hC
        exact hC _
  rw [hve g hg.1, hve k hk.1]
  obtain ⟨a, ea⟩ : ∃ a : Int, (if hfB g = true then 0 else 1) = a := ⟨_, rfl⟩
  obtain ⟨b, eb⟩ : ∃ b : Int, (if hfB k = true then 0 else 1) = b := ⟨_, rfl⟩
  rw [ea, eb]
  by_cases c : hfB g = hfB k
  · have eab : a = b := by rw [← ea, ← eb, c]
    refine guard_st (S (some (.d (.lst [.int a, .int b]))) none none) (fun K hK => ⟨rfl, rfl, ?_⟩) ?_
    · show K (!eqD (.int a) (.int b)) _
      rw [eqD_int, decide_eq_true eab]
      exact hK
    refine seq_to (S (some (.d (.lst [.int a, .int b]))) (some (.d (.int (dt g k)))) none) (fun K hK => lcross_ok hg hk hK) ?_
    by_cases c0 : dt g k = 0
    · rw [bef_reach c c0] at h
      refine guard_st (S (some (.d (.lst [.int a, .int b]))) (some (.d (.int (dt g k)))) none) (fun K hK => ⟨rfl, rfl, ?_⟩) ?_
      · show K (!eqD (.int (dt g k)) (.int 0)) _
        rw [eqD_int, decide_eq_true c0]
        exact hK
      refine seq_to (S (some (.d (.lst [.int a, .int b]))) (some (.d (.int (dt g k)))) (some (.d (.lst [.int (n1 g), .int (n1 k)])))) (fun K hK => ?_) ?_
      · refine dlc_map hpD (fun x => Dt.int (n1 x)) (xs := [g, k]) (fun K2 h2 => ⟨slt rfl, h2⟩) (fun x hx C hC => ?_) (Nat.le_of_ble_eq_true rfl) hK
        exact hC _
      obtain ⟨_, _, r1, _, m1⟩ := hg.ab
      obtain ⟨_, _, r2, _, m2⟩ := hk.ab
      exact ⟨pg_mul r1 m2, pg_mul r2 m1, trivial, tk h⟩
    · rw [bef_turn c c0] at h
      refine ifs_t (S (some (.d (.lst [.int a, .int b]))) (some (.d (.int (dt g k)))) none) (fun K hK => ⟨rfl, rfl, ?_⟩) ⟨trivial, tk h⟩
      show K (!eqD (.int (dt g k)) (.int 0)) _
      rw [eqD_int, decide_eq_false c0]
      exact hK
  · rw [bef_half c] at h
    have ne : a ≠ b := by
      rw [← ea, ← eb]
      clear hve ea eb h
      revert c
      cases hfB g <;> cases hfB k <;> simp
    have lt : decide (a < b) = hfB g := by
      rw [← ea, ← eb]
      clear hve ea eb h ne
      revert c
      cases hfB g <;> cases hfB k <;> simp
    refine ifs_t (S (some (.d (.lst [.int a, .int b]))) none none) (fun K hK => ⟨rfl, rfl, ?_⟩) ⟨trivial, ?_⟩
    · show K (!eqD (.int a) (.int b)) _
      rw [eqD_int, decide_eq_false ne]
      exact hK
    · rw [← lt] at h
      exact tk h
end
end PG

set_option maxRecDepth 100000
set_option maxHeartbeats 4000000
namespace PG
open PySem PySem.Spec PyProof.Rows L2 RT
theorem map_erase {α β : Type} (f : α → β) : ∀ (l : List α) (j : Nat), (l.map f).eraseIdx j = (l.eraseIdx j).map f
  | [], j => by simp
  | a :: r, 0 => by simp
  | a :: r, j + 1 => by
    rw [List.map_cons, List.eraseIdx_cons_succ, List.eraseIdx_cons_succ, map_erase f r j, List.map_cons]
theorem find_hp {L : List Hp3} {b : Hp3} : ((L.map hpD).findIdx? fun z => eqD z (hpD b)) = L.findIdx? fun z => decide (z = b) := by
  rw [List.findIdx?_map]
  congr 1
  funext z
  exact eqD_hp
/-- taking one out -/
theorem out_one {L : List Hp3} {b : Hp3} (hb : b ∈ L) (hn : L.Nodup) : ∃ j, (L.findIdx? fun z => decide (z = b)) = some j ∧ (∀ x, x ∈ L.eraseIdx j ↔ x ∈ L ∧ x ≠ b) ∧ (L.eraseIdx j).Nodup ∧ (L.eraseIdx j).length + 1 = L.length := by
  induction L with
  | nil => cases hb
  | cons a r ih =>
    obtain ⟨ha, hr⟩ := List.nodup_cons.mp hn
    by_cases c : a = b
    · subst c
      refine ⟨0, by rw [List.findIdx?_cons, decide_eq_true rfl]; rfl, fun x => ?_, hr, rfl⟩
      rw [List.eraseIdx_cons_zero, List.mem_cons]
      constructor
      · intro h
        exact ⟨.inr h, fun e => ha (by rw [← e]; exact h)⟩
      · rintro ⟨h | h, ne⟩
        · exact (ne h).elim
        · exact h
    · have hbr : b ∈ r := by
        rcases List.mem_cons.mp hb with e | e
        · exact (c e.symm).elim
        · exact e
      obtain ⟨j, h1, h2, h3, h4⟩ := ih hbr hr
      refine ⟨j + 1, ?_, fun x => ?_, ?_, ?_⟩
      · rw [List.findIdx?_cons, decide_eq_false c, h1]
        rfl
      · rw [List.eraseIdx_cons_succ, List.mem_cons, h2, List.mem_cons]
        constructor
        · rintro (h | ⟨h, ne⟩)
          · exact ⟨.inl h, fun e => c (by rw [← h, e])⟩
          · exact ⟨.inr h, ne⟩
        · rintro ⟨h | h, ne⟩
          · exact .inl h
          · exact .inr ⟨h, ne⟩
      · rw [List.eraseIdx_cons_succ]
        refine List.nodup_cons.mpr ⟨fun h => ha ((h2 a).mp h).1, h3⟩
      · rw [List.eraseIdx_cons_succ, List.length_cons, List.length_cons]
        omega
section
variable {st : List Cell} {Q : Vl → List Cell → Prop}
theorem inorder_ok {L0 : List Hp3} (hp : ∀ g ∈ L0, Pg g) (hl : L0.length ≤ 10000) (h : Q (.d (.lst ((inOrd L0).map hpD))) st) : sp_in_order [.d (.lst (L0.map hpD))] st Q := by
  unfold sp_in_order
  refine ⟨rfl, ?_⟩
  let S : List Hp3 → Option Vl → Option Vl → M := fun L z2 z3 => ⟨[some (.d (.lst (L0.map hpD))), some (.c st.length), z2, z3, none], st ++ [Cell.lst (L.map hpD)]⟩
  refine seq_to (S [] none none) (fun K hK => ⟨lineN rfl, hK⟩) ?_
  refine seq_mid (fun m => ∃ z2 z3, m = S (inOrd L0) z2 z3) (fun K hK => ?_) ?_
  · refine each_inv (lk := none) hpD (fun r m => ∃ L z2 z3, (∀ g ∈ r, Pg g) ∧ (∀ g ∈ L, Pg g) ∧ L.length + r.length ≤ 10000 ∧ r.foldl insK L = inOrd L0 ∧ m = S L z2 z3) (fun _ _ _ => trivial) ?_ ?_ L0 _ ⟨[], none, none, hp, (fun g hg => nomatch hg), by simpa using hl, rfl, rfl⟩
    · rintro g r _ K2 hK2 ⟨L, z2, z3, hr, hL, hlen, he, rfl⟩
      rw [List.length_cons] at hlen
      have hg := hr g List.mem_cons_self
      have hr' := fun y hy => hr y (List.mem_cons_of_mem g hy)
      rw [List.foldl_cons] at he
      have hL' : ∀ y ∈ insK L g, Pg y := fun y hy => by
        rcases insK_mem.mp hy with h | h
        · exact hL y h
        · rw [h]
          exact hg
      have hlen' := insK_len L g
      have cnd : ∀ K : Bool → M → Prop, K (!decide (g ∈ L)) (S L (some (.d (hpD g))) z3) → dTest (dOp (rIn true) (dVar 2) (dVar 1)) (S L (some (.d (hpD g))) z3) K := fun K hK => by
        refine onV_c (getElem_last _ _) ⟨sh_ok sh_hp, sh_hps, ?_⟩
        show K (!((L.map hpD).any fun z => eqD z (hpD g))) _
        rw [any_hp]
        exact hK
      by_cases c : g ∈ L
      · rw [decide_eq_true c] at cnd
        have ei : insK L g = L := by unfold insK; rw [if_pos c]
        rw [ei] at he
        refine guard_end (fun m => m = S L (some (.d (hpD g))) z3) (fun K hK => cnd K (hK _ rfl)) ?_
        rintro _ rfl
        exact hK2 _ ⟨L, _, _, hr', hL, by omega, he, rfl⟩
      · rw [decide_eq_false c] at cnd
        refine ifs_t (S L (some (.d (hpD g))) z3) (fun K hK => cnd K hK) ?_
        obtain ⟨j, ej⟩ : ∃ j, (L.filter fun y => befK y g).length = j := ⟨_, rfl⟩
        have hj : j ≤ L.length := by
          rw [← ej]
          exact List.length_filter_le _ _
        have ei : insK L g = L.take j ++ [g] ++ L.drop j := by unfold insK; rw [if_neg c, ej]
        refine seq_to (S L (some (.d (hpD g))) (some (.d (.int j)))) (fun K hK => ?_) ?_
        · show onC (st ++ [Cell.lst (L.map hpD)]) st.length _
          refine onC_mk (getElem_last _ _) ?_
          refine filt_ownM (f := hpD) (p := fun y => befK y g) (i := 4) ?_ ?_ L [] (fun y hy P hP => ?_) ?_ ?_
          · exact getElem_last _ _
          · exact Nat.lt_of_sub_eq_succ rfl
          · exact before_ok (hL y hy) hg hP
          · rw [List.length_nil]
            omega
          · rw [List.nil_append]
            show K ⟨[_, _, _, some (.d (.int (((L.filter fun y => befK y g).map hpD).length : Int))), _], _⟩
            rw [List.length_map, ej]
            exact hK
        · refine ⟨⟨_, getElem_last _ _⟩, onC_mk (getElem_last _ _) ⟨?_, ?_, ?_, ?_⟩⟩
          · rw [List.length_map]
            show L.length < 16777216
            omega
          · omega
          · have : (j : Int) ≤ 10000 := by omega
            exact Int.lt_of_le_of_lt this (by decide)
          · refine hK2 _ ⟨insK L g, _, _, hr', hL', by omega, he, congrArg (M.mk _) ?_⟩
            show (st ++ [_]).set st.length _ = st ++ [_]
            rw [set_last, ei, List.map_append, List.map_append, List.map_take, List.map_drop, Int.toNat_natCast]
            rfl
    · rintro _ ⟨L, z2, z3, _, _, _, he, rfl⟩
      have he' : L = inOrd L0 := he
      exact hK _ ⟨z2, z3, by rw [he']⟩
  rintro _ ⟨z2, z3, rfl⟩
  refine Eq.mp (if_neg (Nat.lt_irrefl _)).symm (onC_mk (getElem_last _ _) ?_)
  show Q _ ((st ++ [_]).take st.length)
  rw [List.take_left]
  exact h
theorem two_at {a b : Cell} : ((st ++ [a]) ++ [b])[st.length]? = some a ∧ ((st ++ [a]) ++ [b])[st.length + 1]? = some b := by
  constructor
  · rw [List.append_assoc, List.getElem?_append_right (Nat.le_refl _), Nat.sub_self]
    rfl
  · rw [List.append_assoc, List.getElem?_append_right (by omega), Nat.add_sub_cancel_left]
    rfl
theorem two_set1 {a b c : Cell} : ((st ++ [a]) ++ [b]).set st.length c = (st ++ [c]) ++ [b] := by
  rw [List.append_assoc, List.append_assoc, List.set_append_right _ _ (Nat.le_refl _), Nat.sub_self]
  rfl
theorem two_set2 {a b c : Cell} : ((st ++ [a]) ++ [b]).set (st.length + 1) c = (st ++ [a]) ++ [c] := by
  rw [List.append_assoc, List.append_assoc, List.set_append_right _ _ (by omega), Nat.add_sub_cancel_left]
  rfl
theorem lsorted_ok {L0 : List Hp3} (hp : ∀ g ∈ L0, Pg g) (hl : L0.length ≤ 10000) (h : Q (.d (.lst ((inOrd L0).map hpD))) st) : sp__law_sorted [.d (.lst (L0.map hpD))] st Q := by
  unfold sp__law_sorted
  refine ⟨rfl, ?_⟩
  let S : List Hp3 → Option Vl → M := fun L z2 => ⟨[some (.d (.lst (L0.map hpD))), some (.c st.length), z2, none, none], st ++ [Cell.lst (L.map hpD)]⟩
  refine seq_to (S [] none) (fun K hK => ⟨lineN rfl, hK⟩) ?_
  refine seq_mid (fun m => ∃ L z2, L.Nodup ∧ L.length ≤ 10000 ∧ (∀ x, x ∈ L ↔ x ∈ L0) ∧ m = S L z2) (fun K hK => ?_) ?_
  · refine each_inv (lk := none) hpD (fun r m => ∃ L z2, L.Nodup ∧ L.length + r.length ≤ 10000 ∧ (∀ x, x ∈ L ∨ x ∈ r ↔ x ∈ L0) ∧ m = S L z2) (fun _ _ _ => trivial) ?_ ?_ L0 _ ⟨[], none, List.nodup_nil, by simpa using hl, (fun x => by simp), rfl⟩
    · rintro g r _ K2 hK2 ⟨L, z2, hn, hlen, hm, rfl⟩
      rw [List.length_cons] at hlen
      have cnd : ∀ K : Bool → M → Prop, K (!decide (g ∈ L)) (S L (some (.d (hpD g)))) → dTest (dOp (rIn true) (dVar 2) (dVar 1)) (S L (some (.d (hpD g)))) K := fun K hK => by
        refine onV_c (getElem_last _ _) ⟨sh_ok sh_hp, sh_hps, ?_⟩
        show K (!((L.map hpD).any fun z => eqD z (hpD g))) _
        rw [any_hp]
        exact hK
      by_cases c : g ∈ L
      · rw [decide_eq_true c] at cnd
        refine guard_end (fun m => m = S L (some (.d (hpD g)))) (fun K hK => cnd K (hK _ rfl)) ?_
        rintro _ rfl
        refine hK2 _ ⟨L, _, hn, by omega, fun x => ?_, rfl⟩
        rw [← hm, List.mem_cons]
        constructor
        · rintro (h | h)
          · exact .inl h
          · exact .inr (.inr h)
        · rintro (h | h | h)
          · exact .inl h
          · rw [h]
            exact .inl c
          · exact .inr h
      · rw [decide_eq_false c] at cnd
        refine ifs_t (S L (some (.d (hpD g)))) (fun K hK => cnd K hK) ?_
        refine append_st (k := st.length) (xs := L.map hpD) (hpD g) ?_ ?_ (fun C hC => hC) (small_lt (by rw [List.length_map]; omega)) ?_
        · rfl
        · exact getElem_last _ _
        · refine hK2 _ ⟨L ++ [g], _, ?_, by rw [List.length_append, List.length_singleton]; omega, fun x => ?_, congrArg (M.mk _) ?_⟩
          · rw [List.nodup_append]
            refine ⟨hn, List.nodup_cons.mpr ⟨(fun h => nomatch h), List.nodup_nil⟩, fun a ha b hb e => ?_⟩
            rw [List.mem_singleton] at hb
            rw [e, hb] at ha
            exact c ha
          · rw [← hm, List.mem_append, List.mem_singleton, List.mem_cons, or_assoc]
          · show (st ++ [_]).set st.length _ = st ++ [_]
            rw [set_last, List.map_append]
            rfl
    · rintro _ ⟨L, z2, hn, hlen, hm, rfl⟩
      exact hK _ ⟨L, z2, hn, by simpa using hlen, fun x => by have := hm x; simpa using this, rfl⟩
  rintro _ ⟨L1, z2, hn1, hlen1, hm1, rfl⟩
  let T : List Hp3 → List Hp3 → Option Vl → Option Vl → M := fun v1 v3 z2 z4 => ⟨[some (.d (.lst (L0.map hpD))), some (.c st.length), z2, some (.c (st.length + 1)), z4], (st ++ [Cell.lst (v1.map hpD)]) ++ [Cell.lst (v3.map hpD)]⟩
  refine seq_to (T L1 [] z2 none) (fun K hK => ⟨lineN rfl, ?_⟩) ?_
  · show K ⟨[_, _, _, some (.c (st ++ [Cell.lst (L1.map hpD)]).length), _], _⟩
    rw [List.length_append]
    exact hK
  obtain ⟨so, mo, lo⟩ := inOrd_spec hp
  refine seq_mid (fun m => ∃ z2 z4, m = T [] (inOrd L0) z2 z4) (fun K hK => ?_) ?_
  · refine ⟨fun n m => ∃ v1 v3 z2 z4, n = v1.length ∧ v1.Nodup ∧ v1.length + v3.length ≤ 10000 ∧ Srt v3 ∧ (∀ a ∈ v3, ∀ b ∈ v1, befK a b = true) ∧ (∀ x, x ∈ v3 ∨ x ∈ v1 ↔ x ∈ L0) ∧ m = T v1 v3 z2 z4, ⟨L1.length, L1, [], z2, none, rfl, hn1, by simpa using hlen1, List.Pairwise.nil, (fun a ha => nomatch ha), (fun x => by have := hm1 x; simpa using this), rfl⟩, ?_⟩
    rintro n m ⟨v1, v3, z2, z4, rfl, hn, hlen, hs, hb, hm, rfl⟩
    have h1p : ∀ g ∈ v1, Pg g := fun g hg => hp g ((hm g).mp (.inr hg))
    have h3p : ∀ g ∈ v3, Pg g := fun g hg => hp g ((hm g).mp (.inl hg))
    cases v1 with
    | nil =>
      have e3 : v3 = inOrd L0 := srt_uniq hs so fun x => by
        rw [mo, ← hm]
        simp
      refine onV_c two_at.1 ?_
      show K _
      rw [e3]
      exact hK _ ⟨z2, z4, rfl⟩
    | cons a r =>
      refine onV_c two_at.1 ?_
      have go : dSeq (dSet 4 (dOp RT.rIx (dVar 1) (dC (.int 0)))) (dSeq (dFor (dAny (dVar 1)) (.nm 2) (dIfS (dTru (dCall PG.sp__law_before [] (dCons (dVar 2) (dCons (dVar 4) dNil)))) (dSet 4 (dVar 2)) dNext)) (dSeq (dDo (dMeth mRemove (dVar 1) (dCons (dVar 4) dNil))) (dDo (dMeth mAppend (dVar 3) (dCons (dVar 4) dNil)))))
          ⟨fun m2 => ∃ n', n' < (a :: r).length ∧ ∃ v1 v3 z2 z4, n' = v1.length ∧ v1.Nodup ∧ v1.length + v3.length ≤ 10000 ∧ Srt v3 ∧ (∀ a ∈ v3, ∀ b ∈ v1, befK a b = true) ∧ (∀ x, x ∈ v3 ∨ x ∈ v1 ↔ x ∈ L0) ∧ m2 = T v1 v3 z2 z4, retD false st.length Q, K, fun m2 => ∃ n', n' < (a :: r).length ∧ ∃ v1 v3 z2 z4, n' = v1.length ∧ v1.Nodup ∧ v1.length + v3.length ≤ 10000 ∧ Srt v3 ∧ (∀ a ∈ v3, ∀ b ∈ v1, befK a b = true) ∧ (∀ x, x ∈ v3 ∨ x ∈ v1 ↔ x ∈ L0) ∧ m2 = T v1 v3 z2 z4⟩ (T (a :: r) v3 z2 z4) := by
        have at0 : atI ((a :: r).map hpD) 0 = some (hpD a) := atI_map (f := hpD) (k := 0) rfl
        refine seq_to (T (a :: r) v3 z2 (some (.d (hpD a)))) (fun K hK => onV_c two_at.1 (rIx_mk at0 hK)) ?_
        refine seq_mid (fun m => ∃ b z2, b ∈ a :: r ∧ (∀ y ∈ a :: r, y = b ∨ befK b y = true) ∧ m = T (a :: r) v3 z2 (some (.d (hpD b)))) (fun K hK => ?_) ?_
        · show onC ((st ++ [Cell.lst ((a :: r).map hpD)]) ++ [Cell.lst (v3.map hpD)]) st.length _
          refine onC_mk two_at.1 ?_
          refine each_inv (lk := some st.length) hpD (fun q m => ∃ b z2 done, a :: r = done ++ q ∧ b ∈ a :: r ∧ (∀ y ∈ done, y = b ∨ befK b y = true) ∧ m = T (a :: r) v3 z2 (some (.d (hpD b)))) (fun q m ⟨b, z2, done, _, _, _, e⟩ => by subst e; exact two_at.1) ?_ ?_ (a :: r) _ ⟨a, z2, [], rfl, List.mem_cons_self, (fun y hy => nomatch hy), rfl⟩
          · rintro x q _ K2 hK2 ⟨b, z2, done, ed, hbm, hmin, rfl⟩
            have hxm : x ∈ a :: r := by rw [ed]; exact List.mem_append_right _ List.mem_cons_self
            have px := h1p x hxm
            have pb := h1p b hbm
            have hdone : ∀ y ∈ done, y ∈ a :: r := fun y hy => by rw [ed]; exact List.mem_append_left _ hy
            refine lbefore_ok px pb ?_
            show if befK x b = true then _ else _
            cases c : befK x b with
            | true =>
              rw [if_pos rfl]
              refine hK2 _ ⟨x, some (.d (hpD x)), done ++ [x], by rw [ed, List.append_assoc]; rfl, hxm, fun y hy => ?_, rfl⟩
              rcases List.mem_append.mp hy with h | h
              · rcases hmin y h with e | e
                · rw [e]
                  exact .inr c
                · exact .inr (bef_trans px.1 pb.1 (h1p y (hdone y h)).1 c e)
              · exact .inl (List.mem_singleton.mp h)
            | false =>
              refine hK2 _ ⟨b, some (.d (hpD x)), done ++ [x], by rw [ed, List.append_assoc]; rfl, hbm, fun y hy => ?_, rfl⟩
              rcases List.mem_append.mp hy with h | h
              · exact hmin y h
              · rw [List.mem_singleton.mp h]
                by_cases e : x = b
                · exact .inl e
                · rcases bef_total px pb e with z | z
                  · rw [z] at c
                    cases c
                  · exact .inr z
          · rintro _ ⟨b, z2, done, ed, hbm, hmin, rfl⟩
            rw [List.append_nil] at ed
            exact hK _ ⟨b, z2, hbm, fun y hy => hmin y (by rw [← ed]; exact hy), rfl⟩
        rintro _ ⟨b, z2, hbm, hmin, rfl⟩
        obtain ⟨j, f1, f2, f3, f4⟩ := out_one hbm hn
        refine seq_to (T ((a :: r).eraseIdx j) v3 z2 (some (.d (hpD b)))) (fun K hK => ?_) ?_
        · refine ⟨⟨_, two_at.1⟩, onC_mk two_at.1 ⟨sh_ok sh_hp, sh_hps, ?_⟩⟩
          rw [find_hp, f1]
          dsimp only
          show K _
          rw [map_erase]
          show K ⟨_, ((st ++ [_]) ++ [_]).set st.length _⟩
          rw [two_set1]
          exact hK
        refine append_st (k := st.length + 1) (xs := v3.map hpD) (hpD b) ?_ ?_ (fun C hC => hC) (small_lt (by rw [List.length_map]; omega)) ?_
        · rfl
        · exact two_at.2
        · refine ⟨((a :: r).eraseIdx j).length, by omega, (a :: r).eraseIdx j, v3 ++ [b], _, _, rfl, f3, by rw [List.length_append, List.length_singleton]; omega, ?_, fun x hx y hy => ?_, fun x => ?_, congrArg (M.mk _) ?_⟩
          · unfold Srt
            rw [List.pairwise_append]
            refine ⟨hs, List.pairwise_singleton .., fun x hx y hy => ?_⟩
            rw [List.mem_singleton.mp hy]
            exact hb x hx b hbm
          · obtain ⟨y1, y2⟩ := (f2 y).mp hy
            rcases List.mem_append.mp hx with h | h
            · exact hb x h y y1
            · rw [List.mem_singleton.mp h]
              exact (hmin y y1).resolve_left y2
          · rw [← hm, List.mem_append, List.mem_singleton, f2]
            constructor
            · rintro ((h | h) | ⟨h, _⟩)
              · exact .inl h
              · rw [h]
                exact .inr hbm
              · exact .inr h
            · rintro (h | h)
              · exact .inl (.inl h)
              · by_cases e : x = b
                · exact .inl (.inr e)
                · exact .inr ⟨h, e⟩
          · show ((st ++ [_]) ++ [_]).set (st.length + 1) _ = _
            rw [two_set2, List.map_append]
            rfl
      exact go
  rintro _ ⟨z2, z4, rfl⟩
  show if st.length + 1 < st.length then _ else _
  rw [if_neg (by omega)]
  refine onC_mk two_at.2 ?_
  show Q _ (((st ++ [_]) ++ [_]).take st.length)
  rw [List.append_assoc, List.take_left]
  exact h
end
end PG

set_option maxRecDepth 100000
set_option maxHeartbeats 4000000
namespace PG
open PySem PySem.Spec PyProof.Rows L2 RT
theorem num_le {n d : Int} : (Rat.divInt n d).num.natAbs ≤ n.natAbs := by
  rw [Rat.num_divInt]
  have : (d.sign * n / (d.gcd n : Int)).natAbs ≤ (d.sign * n).natAbs := Int.natAbs_ediv_le_natAbs ..
  rw [Int.natAbs_mul] at this
  have h2 : d.sign.natAbs ≤ 1 := by
    rcases Int.lt_trichotomy d 0 with h | h | h
    · rw [Int.sign_eq_neg_one_of_neg h]
      decide
    · rw [h]
      decide
    · rw [Int.sign_eq_one_of_pos h]
      decide
  have := Nat.mul_le_mul_right n.natAbs h2
  omega
theorem den_le {n d : Int} (hd : d ≠ 0) : (Rat.divInt n d).den ≤ d.natAbs := by
  rw [Rat.den_divInt, if_neg hd]
  exact Nat.div_le_self ..
/-- what is drawn for a bound -/
def Fr (r : Rat) : Prop := ∃ n d : Int, r = Rat.divInt n d ∧ 0 < d ∧ d ≤ 3 ∧ n.natAbs ≤ 30
theorem Fr.nd {r : Rat} : Fr r → r.num.natAbs ≤ 30 ∧ r.den ≤ 3 := fun ⟨n, d, e, h1, h2, h3⟩ => by
  rw [e]
  have := num_le (n := n) (d := d)
  have := den_le (n := n) (d := d) (by omega)
  omega
theorem gcd3_div {x y z : Int} (h : ¬ (x = 0 ∧ y = 0)) : gcd3 (x / gcd3 x y z) (y / gcd3 x y z) (z / gcd3 x y z) = 1 := by
  have g0 := gcd3_pos (r := z) h
  obtain ⟨d1, d2, d3⟩ := gcd3_dvd x y z
  obtain ⟨d, ed⟩ : ∃ d, gcd3 x y z = d := ⟨_, rfl⟩
  rw [ed] at d1 d2 d3 g0 ⊢
  obtain ⟨x', rfl⟩ := d1
  obtain ⟨y', rfl⟩ := d2
  obtain ⟨z', rfl⟩ := d3
  rw [Int.mul_ediv_cancel_left _ (by omega), Int.mul_ediv_cancel_left _ (by omega), Int.mul_ediv_cancel_left _ (by omega)]
  unfold gcd3 at ed ⊢
  rw [Int.gcd_mul_left] at ed
  have e2 : (Int.gcd (((d.natAbs * Int.gcd x' y' : Nat) : Int)) (d * z') : Int) = d.natAbs * (Int.gcd (Int.gcd x' y' : Int) z' : Int) := by
    have : ((d.natAbs * Int.gcd x' y' : Nat) : Int) = d * (Int.gcd x' y' : Int) := by
      rw [Int.natCast_mul]
      congr 1
      omega
    rw [this, Int.gcd_mul_left, Int.natCast_mul]
  rw [e2] at ed
  have hd : (d.natAbs : Int) = d := by omega
  rw [hd] at ed
  have : d * (Int.gcd (Int.gcd x' y' : Int) z' : Int) = d * 1 := by omega
  exact Int.eq_of_mul_eq_mul_left (by omega) this
/-- the half-plane of two whole numbers and a fraction -/
theorem mkH_pg {a b : Int} {r : Rat} (h : ¬ (a = 0 ∧ b = 0)) (h1 : a.natAbs ≤ 1000) (h2 : b.natAbs ≤ 1000) (hr : Fr r) : Pg (mkH (a : Rat) (b : Rat) r) ∧ (mkH (a : Rat) (b : Rat) r).p.natAbs ≤ a.natAbs * 3 ∧ (mkH (a : Rat) (b : Rat) r).q.natAbs ≤ b.natAbs * 3 := by
  obtain ⟨n1, n2⟩ := hr.nd
  have dr := r.den_pos
  have ex : mkX (a : Rat) (b : Rat) r = a * r.den := by
    unfold mkX
    rw [Rat.num_intCast, Rat.den_intCast]
    show a * ((1 : Int) * (r.den : Int)) = _
    rw [Int.one_mul]
  have ey : mkY (a : Rat) (b : Rat) r = b * r.den := by
    unfold mkY
    rw [Rat.num_intCast, Rat.den_intCast]
    show b * ((1 : Int) * (r.den : Int)) = _
    rw [Int.one_mul]
  have ez : mkZ (a : Rat) (b : Rat) r = r.num := by
    unfold mkZ
    rw [Rat.den_intCast, Rat.den_intCast]
    omega
  have eg : mkG (a : Rat) (b : Rat) r = gcd3 (a * r.den) (b * r.den) r.num := by
    unfold mkG gcd3
    rw [ex, ey, ez]
  have hn : ¬ (a * r.den = 0 ∧ b * r.den = 0) := fun ⟨x, y⟩ => h ⟨(Int.mul_eq_zero.mp x).resolve_right (by omega), (Int.mul_eq_zero.mp y).resolve_right (by omega)⟩
  have hpg : ∀ {p q r : Int}, ¬ (p = 0 ∧ q = 0) → p.natAbs ≤ 1000000 → q.natAbs ≤ 1000000 → r.natAbs ≤ 1000000 → Pg ⟨p / gcd3 p q r, q / gcd3 p q r, r / gcd3 p q r⟩ := fun {p q r} h h1 h2 h3 => by
    obtain ⟨d1, d2, d3⟩ := gcd3_dvd p q r
    have g0 := gcd3_pos (r := r) h
    have a := div_ab d1 g0
    have b := div_ab d2 g0
    have c := div_ab d3 g0
    exact ⟨fun ⟨x, y⟩ => h ⟨a.2 x, b.2 y⟩, gcd3_div h, Nat.le_trans a.1 h1, Nat.le_trans b.1 h2, Nat.le_trans c.1 h3⟩
  unfold mkH
  rw [ex, ey, ez, eg]
  have m1 := mulAb (a := a) (b := (r.den : Int)) (Nat.le_refl _) (n := 3) (by omega)
  have m2 := mulAb (a := b) (b := (r.den : Int)) (Nat.le_refl _) (n := 3) (by omega)
  obtain ⟨d1, d2, d3⟩ := gcd3_dvd (a * r.den) (b * r.den) r.num
  have g0 := gcd3_pos (r := r.num) hn
  have a' := div_ab d1 g0
  have b' := div_ab d2 g0
  exact ⟨hpg hn (by omega) (by omega) (by omega), Nat.le_trans a'.1 m1, Nat.le_trans b'.1 m2⟩
theorem gcd3_neg {x y z : Int} : gcd3 (-x) (-y) (-z) = gcd3 x y z := by
  unfold gcd3
  rw [Int.gcd_neg, Int.neg_gcd, Int.gcd_neg]
theorem oppH_pg {g : Hp3} (h : Pg g) : Pg (oppH g) := by
  obtain ⟨d, e, h1, h2, h3⟩ := h
  unfold oppH
  exact ⟨fun ⟨x, y⟩ => d ⟨by dsimp only at x; omega, by dsimp only at y; omega⟩, by dsimp only; rw [gcd3_neg]; exact e, by dsimp only; omega, by dsimp only; omega, by dsimp only; omega⟩
section
variable {st : List Cell} {Q : Vl → List Cell → Prop}
theorem lplane_ok {p q r : Rat} (h0 : ¬ (p = 0 ∧ q = 0)) (hp : zb p ≤ 1000) (hq : zb q ≤ 1000) (hr : zb r ≤ 1000) (h : Q (.d (hpD (mkH p q r))) st) : sp__law_plane [.d (fr p), .d (fr q), .d (fr r)] st Q := by
  have p1 := zb_num p
  have p2 := zb_den p
  have q1 := zb_num q
  have q2 := zb_den q
  have r1 := zb_num r
  have r2 := zb_den r
  have dp := den_pos' p
  have dq := den_pos' q
  have dr := den_pos' r
  have m1 := @log2_mul_le p.den q.den
  have m2 := @log2_mul_le q.den r.den
  have m3 := @log2_mul_le p.den r.den
  have f1 : ((p.den : Int) * q.den * r.den).fdiv p.den = q.den * r.den := by
    rw [Int.mul_assoc, Int.mul_fdiv_cancel_left _ (by omega)]
  have f2 : ((p.den : Int) * q.den * r.den).fdiv q.den = p.den * r.den := by
    rw [Int.mul_comm (p.den : Int), Int.mul_assoc, Int.mul_fdiv_cancel_left _ (by omega)]
  have f3 : ((p.den : Int) * q.den * r.den).fdiv r.den = p.den * q.den := by
    rw [Int.mul_fdiv_cancel _ (by omega)]
  unfold sp__law_plane
  refine ⟨rfl, ?_⟩
  let S : Option Vl → Option Vl → Option Vl → Option Vl → M := fun z4 z5 z6 z7 => ⟨[some (.d (fr p)), some (.d (fr q)), some (.d (fr r)), some (.d (.int ((p.den : Int) * q.den * r.den))), z4, z5, z6, z7], st⟩
  refine seq_to (S none none none none) (fun K hK => ?_) ?_
  · exact ⟨mulok (by rw [Int.natAbs_natCast, Int.natAbs_natCast]; exact zm (by omega)), mulok (by rw [Int.natAbs_mul, Int.natAbs_natCast, Int.natAbs_natCast, Int.natAbs_natCast]; exact zm (by omega)), hK⟩
  refine seq_to (S none (some (.d (.lst ([mkX p q r, mkY p q r, mkZ p q r].map .int)))) none none) (fun K hK => ?_) ?_
  · refine dlc_map fr (fun x => Dt.int (x.num * (((p.den : Int) * q.den * r.den).fdiv x.den))) (xs := [p, q, r]) (fun K2 h2 => ⟨slt rfl, h2⟩) (fun x hx C hC => ?_) (Nat.le_of_ble_eq_true rfl) ?_
    · refine ⟨den_pos x, ?_⟩
      refine ⟨?_, hC _⟩
      show MulOk x.num (((p.den : Int) * q.den * r.den).fdiv x.den)
      rcases List.mem_cons.mp hx with e | hx
      · rw [e, f1]
        exact mulok (by rw [Int.natAbs_mul, Int.natAbs_natCast, Int.natAbs_natCast]; exact zm (by omega))
      · rcases List.mem_cons.mp hx with e | hx
        · rw [e, f2]
          exact mulok (by rw [Int.natAbs_mul, Int.natAbs_natCast, Int.natAbs_natCast]; exact zm (by omega))
        · rw [List.mem_singleton.mp hx, f3]
          exact mulok (by rw [Int.natAbs_mul, Int.natAbs_natCast, Int.natAbs_natCast]; exact zm (by omega))
    · have e : [p, q, r].map (fun x => Dt.int (x.num * (((p.den : Int) * q.den * r.den).fdiv x.den))) = [mkX p q r, mkY p q r, mkZ p q r].map .int := by
        show [Dt.int (p.num * (((p.den : Int) * q.den * r.den).fdiv p.den)), .int (q.num * (((p.den : Int) * q.den * r.den).fdiv q.den)), .int (r.num * (((p.den : Int) * q.den * r.den).fdiv r.den))] = _
        rw [f1, f2, f3]
        rfl
      rw [e]
      exact hK
  have g0 := mkG_pos (r := r) h0
  have eG : (([mkX p q r, mkY p q r, mkZ p q r].foldl (fun (g : Nat) (x : Int) => Nat.gcd g x.natAbs) 0 : Nat) : Int) = mkG p q r := by
    show ((Nat.gcd (Nat.gcd (Nat.gcd 0 (mkX p q r).natAbs) (mkY p q r).natAbs) (mkZ p q r).natAbs : Nat) : Int) = _
    rw [Nat.gcd_zero_left]
    rfl
  refine seq_to (S none (some (.d (.lst ([mkX p q r, mkY p q r, mkZ p q r].map .int)))) (some (.d (.int ((0 : Nat) : Int)))) none) (fun K hK => hK) ?_
  refine seq_mid (fun m => ∃ z4 z7, m = S z4 (some (.d (.lst ([mkX p q r, mkY p q r, mkZ p q r].map .int)))) (some (.d (.int (mkG p q r)))) z7) (fun K hK => ?_) ?_
  · refine each_inv (lk := none) Dt.int (fun xs m => ∃ (g : Nat) (z4 z7 : Option Vl), ((xs.foldl (fun (g : Nat) (x : Int) => Nat.gcd g x.natAbs) g : Nat) : Int) = mkG p q r ∧ m = S z4 (some (.d (.lst ([mkX p q r, mkY p q r, mkZ p q r].map .int)))) (some (.d (.int (g : Int)))) z7) (fun _ _ _ => trivial) ?_ ?_ [mkX p q r, mkY p q r, mkZ p q r] _ ⟨0, none, none, eG, rfl⟩
    · rintro w xs _ K2 hK2 ⟨g, z4, z7, he, rfl⟩
      rw [List.foldl_cons] at he
      refine seq_to (S (some (.d (.int w))) (some (.d (.lst ([mkX p q r, mkY p q r, mkZ p q r].map .int)))) (some (.d (.int (g : Int)))) (some (.d (.int (w.natAbs : Int))))) (fun K hK => by rw [← abs_eq w] at hK; exact hK) ?_
      refine ⟨fun k m => ∃ x y : Nat, m = S (some (.d (.int w))) (some (.d (.lst ([mkX p q r, mkY p q r, mkZ p q r].map .int)))) (some (.d (.int (x : Int)))) (some (.d (.int (y : Int)))) ∧ k = y ∧ Nat.gcd x y = Nat.gcd g w.natAbs, ⟨w.natAbs, g, w.natAbs, rfl, rfl, rfl⟩, ?_⟩
      rintro y m ⟨x, _, rfl, rfl, hgc⟩
      refine ⟨trivial, ?_⟩
      show if (decide ((0 : Int) < y)) = true then _ else _
      by_cases hy : (0 : Int) < y
      · rw [if_pos (decide_eq_true hy)]
        refine ⟨by omega, ?_⟩
        refine ⟨x % y, Nat.mod_lt _ (by omega), y, x % y, ?_, rfl, ?_⟩
        · rw [Int.natCast_emod, ← Int.fmod_eq_emod_of_nonneg _ (by omega)]
          rfl
        · rw [← hgc, Nat.gcd_comm x y, Nat.gcd_rec y x, Nat.gcd_comm]
      · rw [if_neg (by simp; omega)]
        have e : y = 0 := by omega
        subst e
        rw [Nat.gcd_zero_right] at hgc
        rw [← hgc] at he
        exact hK2 _ ⟨x, _, _, he, rfl⟩
    · rintro _ ⟨g, z4, z7, he, rfl⟩
      have he' : (g : Int) = mkG p q r := he
      exact hK _ ⟨z4, z7, by rw [he']⟩
  rintro _ ⟨z4, z7, rfl⟩
  have n0 : mkG p q r ≠ 0 := by omega
  refine ⟨n0, n0, n0, lineN rfl, tk ?_⟩
  show Q (.d (.tup [.int ((mkX p q r).fdiv (mkG p q r)), .int ((mkY p q r).fdiv (mkG p q r)), .int ((mkZ p q r).fdiv (mkG p q r))])) st
  rw [fdiv_pos g0, fdiv_pos g0, fdiv_pos g0]
  exact h
theorem lfraction_ok {ds : List Int} {i k : Nat} (hk : st[k]? = some (Bx ds i)) (hi : i < 900000) (h : ∀ r : Rat, Fr r → Q (.d (fr r)) (st.set k (Bx ds (i + 2)))) : sp__law_fraction [.c k] st Q := by
  have hlt : k < st.length := (List.getElem?_eq_some_iff.mp hk).1
  have hs : ∀ c : Cell, (st.set k c)[k]? = some c := fun c => by simp [hlt]
  have hl : ∀ c : Cell, (st.set k c).length = st.length := fun c => List.length_set
  unfold sp__law_fraction
  refine ⟨rfl, draw2_ok hk (by decide) (by omega) fun a a0 a1 => ⟨trivial, slt rfl, ?_⟩⟩
  refine draw2_ok (hs _) (by decide) (by omega) fun b b0 b1 => ?_
  rw [List.set_set]
  have hb : ∃ d : Int, atI [Dt.int 1, .int 1, .int 2, .int 3] b = some (.int d) ∧ 0 < d ∧ d ≤ 3 := by
    have : b = 0 ∨ b = 1 ∨ b = 2 ∨ b = 3 := by omega
    rcases this with rfl | rfl | rfl | rfl
    · exact ⟨1, rfl, by decide, by decide⟩
    · exact ⟨1, rfl, by decide, by decide⟩
    · exact ⟨2, rfl, by decide, by decide⟩
    · exact ⟨3, rfl, by decide, by decide⟩
  obtain ⟨d, e, d0, d1⟩ := hb
  refine rIx_mk e ?_
  refine lfrac_ok (by omega) ?_
  rw [← hl (Bx ds (i + 2))]
  exact tk (h _ ⟨a - 4, d, rfl, d0, d1, by omega⟩)
end
end PG

set_option maxRecDepth 100000
set_option maxHeartbeats 4000000
namespace PG
open PySem PySem.Spec PyProof.Rows L2 RT
theorem Fr.zb {r : Rat} (h : Fr r) : zb r ≤ 20 := by
  obtain ⟨n, d, rfl, h1, h2, h3⟩ := h
  exact divI_z (by omega) (by omega) (by omega)
theorem zb_s {a : Int} (h : a.natAbs ≤ 1000) : zb (a : Rat) ≤ 20 := by
  have := zb_int a
  have := log_le (b := 9) h (by decide)
  omega
theorem Fr.shift {r : Rat} {k : Int} (h0 : 0 ≤ k) (h1 : k ≤ 2) : (∃ n d : Int, r = Rat.divInt n d ∧ 0 < d ∧ d ≤ 3 ∧ n.natAbs ≤ 4) → Fr (-r + (k : Rat)) := fun ⟨n, d, e, d0, d1, hn⟩ => by
  have hk : k * d ≤ 2 * 3 := Int.mul_le_mul h1 d1 (by omega) (by omega)
  have hk0 : 0 ≤ k * d := Int.mul_nonneg h0 (by omega)
  refine ⟨-n + k * d, d, ?_, d0, d1, by omega⟩
  rw [e, divI, divI, Rat.intCast_add, Rat.intCast_neg, castI]
  have hd : (d : Rat) ≠ 0 := fun y => by
    have := Rat.intCast_eq_zero_iff.mp y
    omega
  generalize (d : Rat) = d at *
  grind
section
variable {st : List Cell} {Q : Vl → List Cell → Prop}
theorem lfraction4_ok {ds : List Int} {i k : Nat} (hk : st[k]? = some (Bx ds i)) (hi : i < 900000) (h : ∀ r : Rat, (∃ n d : Int, r = Rat.divInt n d ∧ 0 < d ∧ d ≤ 3 ∧ n.natAbs ≤ 4) → Q (.d (fr r)) (st.set k (Bx ds (i + 2)))) : sp__law_fraction [.c k] st Q := by
  have hlt : k < st.length := (List.getElem?_eq_some_iff.mp hk).1
  have hs : ∀ c : Cell, (st.set k c)[k]? = some c := fun c => by simp [hlt]
  have hl : ∀ c : Cell, (st.set k c).length = st.length := fun c => List.length_set
  unfold sp__law_fraction
  refine ⟨rfl, draw2_ok hk (by decide) (by omega) fun a a0 a1 => ⟨trivial, slt rfl, ?_⟩⟩
  refine draw2_ok (hs _) (by decide) (by omega) fun b b0 b1 => ?_
  rw [List.set_set]
  have hb : ∃ d : Int, atI [Dt.int 1, .int 1, .int 2, .int 3] b = some (.int d) ∧ 0 < d ∧ d ≤ 3 := by
    have : b = 0 ∨ b = 1 ∨ b = 2 ∨ b = 3 := by omega
    rcases this with rfl | rfl | rfl | rfl
    · exact ⟨1, rfl, by decide, by decide⟩
    · exact ⟨1, rfl, by decide, by decide⟩
    · exact ⟨2, rfl, by decide, by decide⟩
    · exact ⟨3, rfl, by decide, by decide⟩
  obtain ⟨d, e, d0, d1⟩ := hb
  refine rIx_mk e ?_
  refine lfrac_ok (by omega) ?_
  rw [← hl (Bx ds (i + 2))]
  exact tk (h _ ⟨a - 4, d, rfl, d0, d1, by omega⟩)
theorem frac4_fr {r : Rat} : (∃ n d : Int, r = Rat.divInt n d ∧ 0 < d ∧ d ≤ 3 ∧ n.natAbs ≤ 4) → Fr r := fun ⟨n, d, e, h1, h2, h3⟩ => ⟨n, d, e, h1, h2, by omega⟩
theorem plane_st {a b : Int} {r : Rat} {P : Hp3 → Prop} (h0 : ¬ (a = 0 ∧ b = 0)) (ha : a.natAbs ≤ 1000) (hb : b.natAbs ≤ 1000) (hr : Fr r) (h : ∀ g, Pg g → Q (.d (hpD g)) st) : sp__law_plane [.d (.tup [.int a, .int 1]), .d (.tup [.int b, .int 1]), .d (fr r)] st Q := by
  have h0' : ¬ ((a : Rat) = 0 ∧ (b : Rat) = 0) := fun ⟨x, y⟩ => h0 ⟨Rat.intCast_eq_zero_iff.mp x, Rat.intCast_eq_zero_iff.mp y⟩
  have := hr.zb
  have := zb_s (a := a) (by omega)
  have := zb_s (a := b) (by omega)
  exact lplane_ok (p := (a : Rat)) (q := (b : Rat)) h0' (by omega) (by omega) (by omega) (h _ (mkH_pg h0 ha hb hr).1)
/-- .. with small directions -/
def Ps (g : Hp3) : Prop := Pg g ∧ g.p.natAbs ≤ 300 ∧ g.q.natAbs ≤ 300
theorem oppH_ps {g : Hp3} (h : Ps g) : Ps (oppH g) := ⟨oppH_pg h.1, by have := h.2.1; unfold oppH; dsimp only; omega, by have := h.2.2; unfold oppH; dsimp only; omega⟩
theorem plane_ss {a b : Int} {r : Rat} (h0 : ¬ (a = 0 ∧ b = 0)) (ha : a.natAbs ≤ 100) (hb : b.natAbs ≤ 100) (hr : Fr r) (h : ∀ g, Ps g → Q (.d (hpD g)) st) : sp__law_plane [.d (.tup [.int a, .int 1]), .d (.tup [.int b, .int 1]), .d (fr r)] st Q := by
  have h0' : ¬ ((a : Rat) = 0 ∧ (b : Rat) = 0) := fun ⟨x, y⟩ => h0 ⟨Rat.intCast_eq_zero_iff.mp x, Rat.intCast_eq_zero_iff.mp y⟩
  have := hr.zb
  have := zb_s (a := a) (by omega)
  have := zb_s (a := b) (by omega)
  obtain ⟨x, y, z⟩ := mkH_pg h0 (by omega) (by omega) hr
  exact lplane_ok (p := (a : Rat)) (q := (b : Rat)) h0' (by omega) (by omega) (by omega) (h _ ⟨x, by omega, by omega⟩)
theorem halves_ok {ds : List Int} {i k : Nat} (hk : st[k]? = some (Bx ds i)) (hi : i < 1000) (h : ∀ (L : List Hp3) (j : Nat), L.length ≤ 18 → (∀ g ∈ L, Ps g) → j ≤ i + 100 → Q (.c st.length) (st.set k (Bx ds j) ++ [Cell.lst (L.map hpD)])) : sp__law_halves [.c k, .d (.int 6)] st Q := by
  have hlt : k < st.length := (List.getElem?_eq_some_iff.mp hk).1
  have hln : ∀ c : Cell, (st.set k c).length = st.length := fun c => List.length_set
  have hs0 : ∀ c : Cell, (st.set k c)[k]? = some c := fun c => by simp [hlt]
  have hs1 : ∀ c d : Cell, (st.set k c ++ [d])[k]? = some c := fun c d => by
    rw [List.getElem?_append_left (by rw [hln]; exact hlt)]
    exact hs0 c
  have gl : ∀ c d : Cell, (st.set k c ++ [d])[st.length]? = some d := fun c d => by rw [← hln c]; exact getElem_last _ _
  have ss : ∀ c d e : Cell, (st.set k c ++ [d]).set k e = st.set k e ++ [d] := fun c d e => by
    rw [List.set_append_left _ _ (by rw [hln]; exact hlt), List.set_set]
  have sl : ∀ c d e : Cell, (st.set k c ++ [d]).set st.length e = st.set k c ++ [e] := fun c d e => by
    rw [← hln c]; exact set_last _ _ _
  have same : st = st.set k (Bx ds i) := by
    refine List.ext_getElem? fun j => ?_
    rw [List.getElem?_set]
    by_cases e : k = j
    · subst e
      rw [if_pos rfl, if_pos hlt, hk]
    · rw [if_neg e]
  unfold sp__law_halves
  refine ⟨rfl, ?_⟩
  let S : List Hp3 → Option Vl → Option Vl → Option Vl → Nat → M := fun L z3 z4 z5 j => ⟨[some (.c k), some (.d (.int 6)), some (.c st.length), z3, z4, z5], st.set k (Bx ds j) ++ [Cell.lst (L.map hpD)]⟩
  refine seq_to (S [] none none none i) (fun K hK => ⟨lineN rfl, ?_⟩) ?_
  · show K ⟨_, st ++ [Cell.lst []]⟩
    have e : st ++ [Cell.lst []] = st.set k (Bx ds i) ++ [Cell.lst []] := by rw [← same]
    rw [e]
    exact hK
  refine seq_mid (fun m => ∃ L z3 z4 z5 j, L.length ≤ 18 ∧ (∀ g ∈ L, Ps g) ∧ j ≤ i + 100 ∧ m = S L z3 z4 z5 j) (fun K hK => ?_) ?_
  · refine draw2_ok (hs1 _ _) (by decide) (by omega) fun a a0 a1 => ?_
    rw [ss]
    refine ⟨⟨by omega, by omega⟩, ?_⟩
    refine range_inv (fun n lo m => ∃ L z3 z4 z5 j, L.length + 3 * n ≤ 18 ∧ (∀ g ∈ L, Ps g) ∧ j + 12 * n ≤ i + 100 ∧ m = S L z3 z4 z5 j) ?_ ?_ a.toNat 0 _ ⟨[], none, none, none, i + 1, by rw [List.length_nil]; omega, (fun g hg => nomatch hg), by omega, rfl⟩
    · rintro n lo _ K2 hK2 ⟨L, z3, z4, z5, j, hlen, hL, hj, rfl⟩
      refine seq_mid (fun m => ∃ (p : Int), p.natAbs ≤ 3 ∧ m = S L (some (.d (.int lo))) (some (.d (.int p))) z5 (j + 1)) (fun K hK => ?_) ?_
      · refine draw2_ok (hs1 _ _) (by decide) (by omega) fun b b0 b1 => ⟨trivial, ?_⟩
        rw [ss]
        exact hK _ ⟨b - 3, by omega, rfl⟩
      rintro _ ⟨p, hp, rfl⟩
      refine seq_mid (fun m => ∃ (q : Int), q.natAbs ≤ 3 ∧ m = S L (some (.d (.int lo))) (some (.d (.int p))) (some (.d (.int q))) (j + 2)) (fun K hK => ?_) ?_
      · refine draw2_ok (hs1 _ _) (by decide) (by omega) fun b b0 b1 => ⟨trivial, ?_⟩
        rw [ss]
        exact hK _ ⟨b - 3, by omega, rfl⟩
      rintro _ ⟨q, hq, rfl⟩
      refine seq_mid (fun m => ∃ (q : Int), q.natAbs ≤ 3 ∧ ¬ (p = 0 ∧ q = 0) ∧ m = S L (some (.d (.int lo))) (some (.d (.int p))) (some (.d (.int q))) (j + 2)) (fun K hK => ?_) ?_
      · refine ⟨rfl, rfl, ?_⟩
        show if eqD (.int p) (.int 0) = true then _ else _
        rw [eqD_int]
        refine ifd (fun c => ?_) fun c => ?_
        · refine ⟨rfl, rfl, ?_⟩
          show if eqD (.int q) (.int 0) = true then _ else _
          rw [eqD_int]
          refine ifd (fun c2 => ?_) fun c2 => ?_
          · exact hK _ ⟨1, by decide, by omega, rfl⟩
          · exact hK _ ⟨q, hq, by omega, rfl⟩
        · exact hK _ ⟨q, hq, by omega, rfl⟩
      rintro _ ⟨q, hq, h0, rfl⟩
      have app : ∀ {L : List Hp3} {g : Hp3}, (∀ g ∈ L, Ps g) → Ps g → ∀ y ∈ L ++ [g], Ps y := fun hL hg y hy => by
        rcases List.mem_append.mp hy with h | h
        · exact hL y h
        · rw [List.mem_singleton.mp h]
          exact hg
      let T : List Hp3 → Nat → M := fun L j => S L (some (.d (.int lo))) (some (.d (.int p))) (some (.d (.int q))) j
      refine seq_mid (fun m => ∃ g, Ps g ∧ m = T (L ++ [g]) (j + 4)) (fun K hK => ?_) ?_
      · refine ⟨⟨_, gl _ _⟩, lineN rfl, lineN rfl, ?_⟩
        refine lfraction4_ok (hs1 _ _) (by omega) fun r hr => ?_
        rw [ss]
        refine plane_ss h0 (by omega) (by omega) (frac4_fr hr) fun g hg => ?_
        refine onC_mk (gl _ _) ⟨?_, hK _ ⟨g, hg, congrArg (M.mk _) ?_⟩⟩
        · rw [List.length_map]
          show L.length < 16777216
          omega
        · show (st.set k (Bx ds (j + 2 + 2)) ++ [_]).set st.length _ = _
          rw [sl, List.map_append]
          rfl
      rintro _ ⟨g1, hg1, rfl⟩
      refine seq_mid (fun m => ∃ L2 j2, (∀ g ∈ L2, Ps g) ∧ L2.length ≤ L.length + 2 ∧ 0 < L2.length ∧ j2 ≤ j + 8 ∧ m = T L2 j2) (fun K hK => ?_) ?_
      · refine draw2_ok (hs1 _ _) (by decide) (by omega) fun b b0 b1 => ?_
        rw [ss]
        refine ⟨rfl, rfl, ?_⟩
        show if eqD (.int b) (.int 0) = true then _ else _
        rw [eqD_int]
        refine ifd (fun _ => ?_) fun _ => ?_
        · refine ⟨⟨_, gl _ _⟩, lineN rfl, lineN rfl, ?_⟩
          refine lfraction4_ok (hs1 _ _) (by omega) fun r hr => ?_
          rw [ss]
          refine lneg_ok ?_
          refine draw2_ok (hs1 _ _) (by decide) (by omega) fun c c0 c1 => ?_
          rw [ss]
          have z1 := (frac4_fr hr).zb
          have z2 := zb_s (a := c) (by omega)
          refine ⟨lineN rfl, ladd2_ok (x := -r) (y := (c : Rat)) (zm (by rw [zb_neg]; omega)) ?_⟩
          refine plane_ss (a := -p) (b := -q) (by omega) (by omega) (by omega) (Fr.shift c0 (by omega) hr) fun g hg => ?_
          refine onC_mk (gl _ _) ⟨?_, hK _ ⟨(L ++ [g1]) ++ [g], j + 8, app (app hL hg1) hg, ?_, ?_, Nat.le_refl _, congrArg (M.mk _) ?_⟩⟩
          · rw [List.length_map, List.length_append, List.length_singleton]
            show L.length + 1 < 16777216
            omega
          · rw [List.length_append, List.length_append]
            exact Nat.le_refl _
          · rw [List.length_append, List.length_singleton]
            omega
          · show (st.set k (Bx ds (j + 4 + 1 + 2 + 1)) ++ [_]).set st.length _ = _
            rw [sl, List.map_append (l₁ := L ++ [g1])]
            rfl
        · refine hK _ ⟨L ++ [g1], j + 5, app hL hg1, by rw [List.length_append, List.length_singleton]; omega, by rw [List.length_append, List.length_singleton]; omega, by omega, rfl⟩
      rintro _ ⟨L2, j2, hL2, l2, l0, hj2, rfl⟩
      refine draw2_ok (hs1 _ _) (by decide) (by omega) fun b b0 b1 => ?_
      rw [ss]
      refine ⟨rfl, rfl, ?_⟩
      show if eqD (.int b) (.int 0) = true then _ else _
      rw [eqD_int]
      refine ifd (fun _ => ?_) fun _ => ?_
      · have hp0 : Ps (hAt L2 0) := hL2 _ (hAt_mem l0)
        have at0 : atI (L2.map hpD) 0 = some (hpD (hAt L2 0)) := atI_map (f := hpD) (k := 0) (hAt_get l0)
        refine ⟨⟨_, gl _ _⟩, onV_c (gl _ _) (rIx_mk at0 ?_)⟩
        refine lopp_ok ?_
        refine onC_mk (gl _ _) ⟨?_, hK2 _ ⟨L2 ++ [oppH (hAt L2 0)], _, _, _, j2 + 1, ?_, app hL2 (oppH_ps hp0), by omega, congrArg (M.mk _) ?_⟩⟩
        · rw [List.length_map]
          show L2.length < 16777216
          omega
        · rw [List.length_append, List.length_singleton]
          omega
        · show (st.set k (Bx ds (j2 + 1)) ++ [_]).set st.length _ = _
          rw [sl, List.map_append]
          rfl
      · exact hK2 _ ⟨L2, _, _, _, j2 + 1, by omega, hL2, by omega, rfl⟩
    · rintro lo _ ⟨L, z3, z4, z5, j, hlen, hL, hj, rfl⟩
      exact hK _ ⟨L, z3, z4, z5, j, by omega, hL, by omega, rfl⟩
  rintro _ ⟨L, z3, z4, z5, j, hlen, hL, hj, rfl⟩
  refine Eq.mp (if_neg (Nat.lt_irrefl _)).symm (onC_mk (gl _ _) ?_)
  show Q (.c st.length) ((st.set k (Bx ds j) ++ [Cell.lst (L.map hpD)]).take st.length ++ [Cell.lst (L.map hpD)])
  have e : (st.set k (Bx ds j) ++ [Cell.lst (L.map hpD)]).take st.length = st.set k (Bx ds j) := by
    rw [← hln (Bx ds j), List.take_left]
  rw [e]
  exact h L j hlen hL hj
end
end PG

set_option maxRecDepth 100000
set_option maxHeartbeats 4000000
namespace PG
open PySem PySem.Spec PyProof.Rows L2 RT
theorem cut_hp (L : List Hp3) (lo hi : Option Int) : ∃ sub : List Hp3, RT.cutD (L.map hpD) lo hi = sub.map hpD ∧ (∀ c ∈ sub, c ∈ L) ∧ sub.length ≤ L.length := by
  unfold RT.cutD
  refine ⟨_, by rw [← List.map_drop, ← List.map_take], fun c hc => ?_, ?_⟩
  · exact List.mem_of_mem_drop (List.mem_of_mem_take hc)
  · rw [List.length_take, List.length_drop]
    omega
/-- a list of one's own grows by what may change other cells -/
theorem append_gen {i k : Nat} {te : DE} {E : DEnds} {m : M} (P : Dt → M → Prop) (hv : m.sl[i]? = some (some (.c k))) (hk0 : ∃ zs, m.st[k]? = some (.lst zs)) (ht : ∀ C : Vl → M → Prop, (∀ d m', P d m' → C (.d d) m') → te m C)
    (h : ∀ d m', P d m' → ∃ xs, m'.st[k]? = some (.lst xs) ∧ xs.length < sizeLine ∧ E.nx ⟨m'.sl, m'.st.set k (.lst (xs ++ [d]))⟩) : dDo (dMeth mAppend (dVar i) (dCons te dNil)) E m := by
  unfold dDo dMeth dVar
  rw [hv]
  refine ⟨hk0, ht _ fun d m' p => ?_⟩
  obtain ⟨xs, e, hl, hn⟩ := h d m' p
  show onC m'.st k _
  exact onC_mk e ⟨hl, hn⟩
theorem fz_c {i k : Nat} {m : M} {Q : Vl → M → Prop} {xs : List Dt} (hv : m.sl[i]? = some (some (.c k))) (hc : m.st[k]? = some (.lst xs)) (h : Q (.d (.lst xs)) (frz k xs m)) : dFz i m Q := by
  unfold dFz
  rw [hv]
  exact onC_mk hc h
theorem call1 {sp : FSpec} {t : DE} {m : M} {Q : Vl → M → Prop} (h : t m fun v m1 => sp [v] m1.st fun r st' => Q r ⟨m1.sl, st'⟩) : dCall sp [] (dCons t dNil) m Q := h
theorem not_call2 {sp : FSpec} {t1 t2 : DE} {m : M} {K : Bool → M → Prop} (h : t1 m fun v m1 => t2 m1 fun w m2 => sp [v, w] m2.st fun r st' => onV ⟨m2.sl, st'⟩ r fun x => truD x fun b => K (!b) ⟨m2.sl, st'⟩) : dNot (dTru (dCall sp [] (dCons t1 (dCons t2 dNil)))) m K := h
theorem law_k40 : LawD 63 sp_law_8 := fun ns hl hb => by
  unfold sp_law_8
  refine ⟨rfl, ?_⟩
  let sc : Dt := .lst (ns.map .int)
  let X : Option Vl → Option Vl → Option Vl → List Cell → M := fun z2 z3 z4 st => ⟨[some (.d sc), some (.c 0), z2, z3, z4], st⟩
  refine seq_mid (fun m => ∃ ds : List Int, m = X none none none [Bx ds 0]) (fun K hK => box_ok hb (by decide) (by decide) fun ds hd hdl => hK _ ⟨ds, rfl⟩) ?_
  rintro _ ⟨ds, rfl⟩
  refine seq_mid (fun m => ∃ (L : List Hp3) (j : Nat), L.length ≤ 18 ∧ (∀ g ∈ L, Ps g) ∧ j ≤ 100 ∧ m = X (some (.c 1)) none none [Bx ds j, Cell.lst (L.map hpD)]) (fun K hK => ?_) ?_
  · refine halves_ok (k := 0) (i := 0) (ds := ds) rfl (by decide) fun L j h1 h2 h3 => ?_
    exact hK _ ⟨L, j, h1, h2, by omega, rfl⟩
  rintro _ ⟨L, j, hlen, hL, hj, rfl⟩
  refine seq_mid (fun m => ∃ (L2 : List Hp3) (j : Nat), L2.length ≤ 36 ∧ (∀ g ∈ L2, Ps g) ∧ j ≤ 101 ∧ m = X (some (.c 2)) none none [Bx ds j, Cell.lst (L.map hpD), Cell.lst (L2.map hpD)]) (fun K hK => ?_) ?_
  · refine draw2_ok (k := 0) (i := j) (ds := ds) rfl (by decide) (by omega) fun a a0 a1 => ?_
    obtain ⟨sub, e, hsub, hsl⟩ := cut_hp L none (some a)
    refine ⟨?_, ?_⟩
    · rw [e, List.length_map, List.length_map]
      show L.length + sub.length ≤ 16777216
      omega
    · show K ⟨[_, _, some (.c 2), _, _], [Bx ds (j + 1), Cell.lst (L.map hpD), Cell.lst (L.map hpD ++ RT.cutD (L.map hpD) none (some a))]⟩
      rw [e, ← List.map_append]
      refine hK _ ⟨L ++ sub, j + 1, by rw [List.length_append]; omega, fun g hg => ?_, by omega, rfl⟩
      rcases List.mem_append.mp hg with h | h
      · exact hL g h
      · exact hL g (hsub g h)
  rintro _ ⟨L2, j, hlen2, hL2, hj2, rfl⟩
  let Y : List Hp3 → Nat → M := fun L2 j => X (some (.c 2)) none none [Bx ds j, Cell.lst (L.map hpD), Cell.lst (L2.map hpD)]
  refine seq_mid (fun m => ∃ (L3 : List Hp3) (j : Nat), L3.length ≤ 37 ∧ (∀ g ∈ L3, Pg g) ∧ m = Y L3 j) (fun K hK => ?_) ?_
  · cases L2 with
    | nil =>
      exact hK _ ⟨[], j, by decide, (fun g hg => nomatch hg), rfl⟩
    | cons g0 r =>
      have hg0 := hL2 g0 List.mem_cons_self
      obtain ⟨pg, s1, s2⟩ := hg0
      have hd := pg.1
      have hm2 : ∀ {b : Int}, b.natAbs ≤ 300 → MulOk 2 b := fun h => pg_mul (by decide) (by omega)
      have at0 : atI ((g0 :: r).map hpD) 0 = some (hpD g0) := atI_map (f := hpD) (k := 0) rfl
      refine ifs_t (Y (g0 :: r) j) (fun K hK => hK) ?_
      refine append_gen (k := 2) (fun d m' => ∃ g, Pg g ∧ d = hpD g ∧ m' = Y (g0 :: r) (j + 2)) ?_ ?_ (fun C hC => ?_) ?_
      · rfl
      · exact ⟨(g0 :: r).map hpD, rfl⟩
      · refine rIx_mk at0 ?_
        refine ⟨hm2 s1, lineN rfl, ?_⟩
        refine rIx_mk at0 ?_
        refine ⟨hm2 s2, lineN rfl, ?_⟩
        refine lfraction4_ok (k := 0) (i := j) (ds := ds) rfl (by omega) fun f hf => ?_
        refine plane_st (P := fun _ => True) (a := 2 * g0.p) (b := 2 * g0.q) (fun ⟨x, y⟩ => hd ⟨by omega, by omega⟩) (by omega) (by omega) (frac4_fr hf) fun g hg => ?_
        exact hC _ _ ⟨g, hg, rfl, rfl⟩
      · rintro _ _ ⟨g, hg, rfl, rfl⟩
        refine ⟨(g0 :: r).map hpD, rfl, ?_, hK _ ⟨(g0 :: r) ++ [g], j + 2, ?_, fun y hy => ?_, congrArg (M.mk _) ?_⟩⟩
        · rw [List.length_map]
          show (g0 :: r).length < 16777216
          omega
        · rw [List.length_append, List.length_singleton]
          omega
        · rcases List.mem_append.mp hy with h | h
          · exact (hL2 y h).1
          · rw [List.mem_singleton.mp h]
            exact hg
        · rw [List.map_append]
          rfl
  rintro _ ⟨L3, j, hlen3, hp, rfl⟩
  let U : Option Vl → Option Vl → M := fun z3 z4 => ⟨[some (.d sc), some (.c 0), some (.d (.lst (L3.map hpD))), z3, z4], [Bx ds j, Cell.lst (L.map hpD), .dead]⟩
  refine guard_st (U none none) (fun K hK => ?_) ?_
  · refine not_call2 (call1 (fz_c (k := 2) (xs := L3.map hpD) rfl rfl ?_))
    rw [show frz 2 (L3.map hpD) (Y L3 j) = U none none from rfl]
    refine inorder_ok hp (by omega) ?_
    refine lsorted_ok hp (by omega) ?_
    obtain ⟨_, mo, lo⟩ := inOrd_spec hp
    refine same_ok (sw_hps (fun g hg => hp g ((mo g).mp hg)) (by omega)) ?_
    exact hK
  obtain ⟨sub, e, hsub, hsl⟩ := cut_hp L3 none (some 4)
  refine seq_mid (fun m => ∃ z3 z4, m = U z3 z4) (fun K hK => ?_) (fun m ⟨z3, z4, e⟩ => by subst e; rfl)
  show dLoop (.nm 3) _ (RT.cutD (L3.map hpD) none (some 4)) none _ (RT.cutD (L3.map hpD) none (some 4)) _
  rw [e]
  refine each_inv (lk := none) hpD (fun r m => ∃ z3 z4, (∀ g ∈ r, Pg g) ∧ m = U z3 z4) (fun _ _ _ => trivial) ?_ (fun m ⟨z3, z4, _, e⟩ => hK m ⟨z3, z4, e⟩) sub _ ⟨none, none, fun g hg => hp g (hsub g hg), rfl⟩
  rintro g r _ K2 hK2 ⟨z3, z4, hr, rfl⟩
  have pg := hr g List.mem_cons_self
  have hr' := fun y hy => hr y (List.mem_cons_of_mem g hy)
  refine guard_st (U (some (.d (hpD g))) z4) (fun K hK => ?_) ?_
  · refine opp_ok ?_
    refine lopp_ok ⟨sh_ok sh_hp, sh_ok sh_hp, ?_⟩
    show K (!eqD (hpD (oppH g)) (hpD (oppH g))) _
    rw [neD_self]
    exact hK
  show dLoop (.nm 4) _ (RT.cutD (L3.map hpD) none (some 4)) none _ (RT.cutD (L3.map hpD) none (some 4)) _
  rw [e]
  refine each_inv (lk := none) hpD (fun r m => ∃ z4, (∀ g ∈ r, Pg g) ∧ m = U (some (.d (hpD g))) z4) (fun _ _ _ => trivial) ?_ (fun m ⟨z4, _, e⟩ => hK2 m ⟨_, z4, hr', e⟩) sub _ ⟨z4, fun g hg => hp g (hsub g hg), rfl⟩
  rintro k r2 _ K3 hK3 ⟨z4, hr2, rfl⟩
  have pk := hr2 k List.mem_cons_self
  have hr2' := fun y hy => hr2 y (List.mem_cons_of_mem k hy)
  let W : M := U (some (.d (hpD g))) (some (.d (hpD k)))
  refine guard_st W (fun K hK => ⟨sh_ok sh_hp, sh_ok sh_hp, ?_⟩) ?_
  · show if (!eqD (hpD g) (hpD k)) = true then _ else _
    cases c : !eqD (hpD g) (hpD k) with
    | false => exact hK
    | true =>
      rw [if_pos rfl]
      refine before_ok pg pk ?_
      refine lbefore_ok pg pk ⟨rfl, rfl, ?_⟩
      show K (!eqD (.bl (befK g k)) (.bl (befK g k))) _
      rw [neD_self]
      exact hK
  refine guard_end (fun m => m = W) (fun K hK => ?_) ?_
  · refine cross_ok pg pk ?_
    refine lcross_ok pg pk ⟨rfl, rfl, ?_⟩
    show if (!eqD (.int (dt g k)) (.int (dt g k))) = true then _ else _
    rw [neD_self]
    refine dot_ok pg pk ?_
    obtain ⟨a1, b1, _⟩ := pg.ab
    obtain ⟨a2, b2, _⟩ := pk.ab
    refine ⟨pg_mul a1 a2, pg_mul b1 b2, rfl, rfl, ?_⟩
    show K (!eqD (.int (dotI g k)) (.int (dotI g k))) _
    rw [neD_self]
    exact hK _ rfl
  · rintro _ rfl
    exact hK3 _ ⟨_, hr2', rfl⟩
end PG

set_option maxRecDepth 100000
set_option maxHeartbeats 4000000
namespace K40
open PySem PySem.Spec PyProof.Rows L2 RT

def top (i : Nat) : Stmt := PySem.Challenge.pw_raytrain_k40_half_planes_in_order.main.body.getD i (.Pass ⟨0, 0, 0, 0⟩)
abbrev s_common_divisor : Stmt := top 1
abbrev s_fraction : Stmt := top 2
abbrev s_add : Stmt := top 3
abbrev s_negative : Stmt := top 4
abbrev s_subtract : Stmt := top 5
abbrev s_sign : Stmt := top 6
abbrev s_compare : Stmt := top 7
abbrev s_cross : Stmt := top 9
abbrev s_dot : Stmt := top 10
abbrev s_opposite : Stmt := top 11
abbrev s_reach : Stmt := top 12
abbrev s_in_first_half : Stmt := top 13
abbrev s_comes_before : Stmt := top 14
abbrev s_in_order : Stmt := top 15
abbrev s__law_cell : Stmt := top 17
abbrev s__law_row : Stmt := top 18
abbrev s__law_box : Stmt := top 19
abbrev s__law_draw : Stmt := top 20
abbrev s__law_same : Stmt := top 21
abbrev s__law_frac : Stmt := top 22
abbrev s__law_add : Stmt := top 23
abbrev s__law_neg : Stmt := top 24
abbrev s__law_fraction : Stmt := top 25
abbrev s__law_plane : Stmt := top 26
abbrev s__law_cross : Stmt := top 27
abbrev s__law_before : Stmt := top 28
abbrev s__law_sorted : Stmt := top 29
abbrev s__law_opposite : Stmt := top 30
abbrev s__law_halves : Stmt := top 31
abbrev s_law : Stmt := top 32
def dd_common_divisor : He.DefD := ⟨("common_divisor", none), "common_divisor", "common_divisor", defArgs s_common_divisor, defBody s_common_divisor, defScope s_common_divisor, [], []⟩
def dd_fraction : He.DefD := ⟨("fraction", none), "fraction", "fraction", defArgs s_fraction, defBody s_fraction, defScope s_fraction, [.int 1], []⟩
def dd_add : He.DefD := ⟨("add", none), "add", "add", defArgs s_add, defBody s_add, defScope s_add, [], []⟩
def dd_negative : He.DefD := ⟨("negative", none), "negative", "negative", defArgs s_negative, defBody s_negative, defScope s_negative, [], []⟩
def dd_subtract : He.DefD := ⟨("subtract", none), "subtract", "subtract", defArgs s_subtract, defBody s_subtract, defScope s_subtract, [], []⟩
def dd_sign : He.DefD := ⟨("sign", none), "sign", "sign", defArgs s_sign, defBody s_sign, defScope s_sign, [], []⟩
def dd_compare : He.DefD := ⟨("compare", none), "compare", "compare", defArgs s_compare, defBody s_compare, defScope s_compare, [], []⟩
def dd_cross : He.DefD := ⟨("cross", none), "cross", "cross", defArgs s_cross, defBody s_cross, defScope s_cross, [], []⟩
def dd_dot : He.DefD := ⟨("dot", none), "dot", "dot", defArgs s_dot, defBody s_dot, defScope s_dot, [], []⟩
def dd_opposite : He.DefD := ⟨("opposite", none), "opposite", "opposite", defArgs s_opposite, defBody s_opposite, defScope s_opposite, [], []⟩
def dd_reach : He.DefD := ⟨("reach", none), "reach", "reach", defArgs s_reach, defBody s_reach, defScope s_reach, [], []⟩
def dd_in_first_half : He.DefD := ⟨("in_first_half", none), "in_first_half", "in_first_half", defArgs s_in_first_half, defBody s_in_first_half, defScope s_in_first_half, [], []⟩
def dd_comes_before : He.DefD := ⟨("comes_before", none), "comes_before", "comes_before", defArgs s_comes_before, defBody s_comes_before, defScope s_comes_before, [], []⟩
def dd_in_order : He.DefD := ⟨("in_order", none), "in_order", "in_order", defArgs s_in_order, defBody s_in_order, defScope s_in_order, [], []⟩
def dd__law_cell : He.DefD := ⟨("_law_cell", none), "_law_cell", "_law_cell", defArgs s__law_cell, defBody s__law_cell, defScope s__law_cell, [], []⟩
def dd__law_row : He.DefD := ⟨("_law_row", none), "_law_row", "_law_row", defArgs s__law_row, defBody s__law_row, defScope s__law_row, [], []⟩
def dd__law_box : He.DefD := ⟨("_law_box", none), "_law_box", "_law_box", defArgs s__law_box, defBody s__law_box, defScope s__law_box, [], []⟩
def dd__law_draw : He.DefD := ⟨("_law_draw", none), "_law_draw", "_law_draw", defArgs s__law_draw, defBody s__law_draw, defScope s__law_draw, [], []⟩
def dd__law_same : He.DefD := ⟨("_law_same", none), "_law_same", "_law_same", defArgs s__law_same, defBody s__law_same, defScope s__law_same, [], []⟩
def dd__law_frac : He.DefD := ⟨("_law_frac", none), "_law_frac", "_law_frac", defArgs s__law_frac, defBody s__law_frac, defScope s__law_frac, [], []⟩
def dd__law_add : He.DefD := ⟨("_law_add", none), "_law_add", "_law_add", defArgs s__law_add, defBody s__law_add, defScope s__law_add, [], []⟩
def dd__law_neg : He.DefD := ⟨("_law_neg", none), "_law_neg", "_law_neg", defArgs s__law_neg, defBody s__law_neg, defScope s__law_neg, [], []⟩
def dd__law_fraction : He.DefD := ⟨("_law_fraction", none), "_law_fraction", "_law_fraction", defArgs s__law_fraction, defBody s__law_fraction, defScope s__law_fraction, [], []⟩
def dd__law_plane : He.DefD := ⟨("_law_plane", none), "_law_plane", "_law_plane", defArgs s__law_plane, defBody s__law_plane, defScope s__law_plane, [], []⟩
def dd__law_cross : He.DefD := ⟨("_law_cross", none), "_law_cross", "_law_cross", defArgs s__law_cross, defBody s__law_cross, defScope s__law_cross, [], []⟩
def dd__law_before : He.DefD := ⟨("_law_before", none), "_law_before", "_law_before", defArgs s__law_before, defBody s__law_before, defScope s__law_before, [], []⟩
def dd__law_sorted : He.DefD := ⟨("_law_sorted", none), "_law_sorted", "_law_sorted", defArgs s__law_sorted, defBody s__law_sorted, defScope s__law_sorted, [], []⟩
def dd__law_opposite : He.DefD := ⟨("_law_opposite", none), "_law_opposite", "_law_opposite", defArgs s__law_opposite, defBody s__law_opposite, defScope s__law_opposite, [], []⟩
def dd__law_halves : He.DefD := ⟨("_law_halves", none), "_law_halves", "_law_halves", defArgs s__law_halves, defBody s__law_halves, defScope s__law_halves, [], []⟩
def dd_law : He.DefD := ⟨("law", none), "law", "law", defArgs s_law, defBody s_law, defScope s_law, [], []⟩
def fn : List He.DefD := [dd_common_divisor, dd_fraction, dd_add, dd_negative, dd_subtract, dd_sign, dd_compare, dd_cross, dd_dot, dd_opposite, dd_reach, dd_in_first_half, dd_comes_before, dd_in_order, dd__law_cell, dd__law_row, dd__law_box, dd__law_draw, dd__law_same, dd__law_frac, dd__law_add, dd__law_neg, dd__law_fraction, dd__law_plane, dd__law_cross, dd__law_before, dd__law_sorted, dd__law_opposite, dd__law_halves, dd_law]
def fa : List He.Fa := [.glo "common_divisor", .glo "fraction", .glo "add", .glo "negative", .glo "subtract", .glo "sign", .glo "compare", .glo "cross", .glo "dot", .glo "opposite", .glo "reach", .glo "in_first_half", .glo "comes_before", .glo "in_order", .glo "_law_cell", .glo "_law_row", .glo "_law_box", .glo "_law_draw", .glo "_law_same", .glo "_law_frac", .glo "_law_add", .glo "_law_neg", .glo "_law_fraction", .glo "_law_plane", .glo "_law_cross", .glo "_law_before", .glo "_law_sorted", .glo "_law_opposite", .glo "_law_halves", .glo "law", .free "abs", .free "len", .free "range", .free "int", .free "repr"]
def xb (K : PySem.W.Frag) : Bool := true
section
variable {P : Program} {w : World} {K : PySem.W.Frag} {mg : Str → Option Value} {base : Heap}
theorem sc_common_divisor : FnScope (["first", "second", "one", "other"] : List Str) (["first", "second"] : List Str) (defScope s_common_divisor) := ⟨rfl, rfl, rfl, by decide +kernel, rfl, by decide +kernel, by decide +kernel⟩
theorem d_common_divisor {X : Cx} (am : Amb 0 X) (hN : X.N.Nodup) (hc : X.calm = true) (hxe : PassesOwn (model X.prog X.w) X.A X.env X.xe) (eN : X.N = (["first", "second", "one", "other"] : List Str)) (eS : X.env.scope = defScope s_common_divisor) (hfn : ∀ x, X.fn x = true) (fr_abs : X.mg "abs" = none) : JSs X (defBody s_common_divisor) PG.w_common_divisor := by
  have hr := am.rm
  have n0 : X.N[0]? = some ("first" : Str) := by rw [eN]; rfl
  have v0 : SlotOk X 0 "first" := slot_of eS eN hfn rfl (.inl rfl)
  have n1 : X.N[1]? = some ("second" : Str) := by rw [eN]; rfl
  have v1 : SlotOk X 1 "second" := slot_of eS eN hfn rfl (.inl rfl)
  have n2 : X.N[2]? = some ("one" : Str) := by rw [eN]; rfl
  have v2 : SlotOk X 2 "one" := slot_of eS eN hfn rfl (.inl rfl)
  have n3 : X.N[3]? = some ("other" : Str) := by rw [eN]; rfl
  have v3 : SlotOk X 3 "other" := slot_of eS eN hfn rfl (.inl rfl)
  have gl_abs : Gl X "abs" := gl_of eS rfl
  exact (js_cons (js_st hN v2 (je_bi b_abs gl_abs fr_abs RT.boot_abs (ja_cons (je_v v0) ja_nil)))
  (js_cons (js_st hN v3 (je_bi b_abs gl_abs fr_abs RT.boot_abs (ja_cons (je_v v1) ja_nil)))
  (js_cons (js_while hxe (jt_cmp o_gt (je_v v3) je_int (nomark _))
  (js_one (js_par (i := 2) (j := 3) hc hN n2 n3 (by decide) (by rw [eS]; rfl) (by rw [eS]; rfl) (ja_cons (je_v v3) (ja_cons (je_op o_mod (je_v v2) (je_v v3)) ja_nil)) (swap_ok (by rw [eS]; rfl) (by rw [eS]; rfl) (by rw [eS]; rfl) (by decide) rfl rfl rfl (by decide +kernel) (by decide +kernel)))))
  (js_one (js_ret (je_v v2))))))
theorem g_common_divisor (KX : K.In base) (GX : base.Ns mainGlobals mg) (c : He.SaysD fa fn K) (hxb : xb K = true) (hns : BaseOk K mg base) (htr : P.given.tree = none) : FnG P w K mg base "common_divisor" 1 PG.sp_common_divisor [] := by
  obtain ⟨fd, F⟩ := c.def_ 0 (d := dd_common_divisor) rfl
  unfold PG.sp_common_divisor
  exact mkG (N := (["first", "second", "one", "other"] : List Str)) false hns htr F (He.glo_ok KX GX (c.fact 0 (f := .glo "common_divisor") rfl)) sc_common_divisor rfl rfl (fun _ _ _ _ _ _ us hl => match us, hl with | [_, _], _ => rfl) (fun X cdv A outer s H E hX hcd am => by subst hX; exact d_common_divisor am sc_common_divisor.nd rfl PassesOwn.never rfl rfl (fun _ => rfl) (He.free_ok KX GX (c.fact 30 (f := .free "abs") rfl)))

theorem sc_fraction : FnScope (["numerator", "denominator", "divisor"] : List Str) (["numerator", "denominator"] : List Str) (defScope s_fraction) := ⟨rfl, rfl, rfl, by decide +kernel, rfl, by decide +kernel, by decide +kernel⟩
theorem d_fraction {X : Cx} (am : Amb 1 X) (hN : X.N.Nodup) (hc : X.calm = true) (hxe : PassesOwn (model X.prog X.w) X.A X.env X.xe) (eN : X.N = (["numerator", "denominator", "divisor"] : List Str)) (eS : X.env.scope = defScope s_fraction) (hfn : ∀ x, X.fn x = true) (G_common_divisor : FnG X.prog X.w X.K X.mg X.base "common_divisor" 1 PG.sp_common_divisor []) : JSs X (defBody s_fraction) PG.w_fraction := by
  have hr := am.rm
  have n0 : X.N[0]? = some ("numerator" : Str) := by rw [eN]; rfl
  have v0 : SlotOk X 0 "numerator" := slot_of eS eN hfn rfl (.inl rfl)
  have n1 : X.N[1]? = some ("denominator" : Str) := by rw [eN]; rfl
  have v1 : SlotOk X 1 "denominator" := slot_of eS eN hfn rfl (.inl rfl)
  have n2 : X.N[2]? = some ("divisor" : Str) := by rw [eN]; rfl
  have v2 : SlotOk X 2 "divisor" := slot_of eS eN hfn rfl (.inl rfl)
  have gl_common_divisor : Gl X "common_divisor" := gl_of eS rfl
  exact (js_cons (js_st hN v2 (je_cg G_common_divisor hr gl_common_divisor (ja_cons (je_v v0) (ja_cons (je_v v1) ja_nil))))
  (js_cons (js_if (jt_cmp o_lt (je_v v1) je_int (nomark _))
  (js_one (js_st hN v2 (je_neg (je_v v2))))
  js_nil)
  (js_one (js_ret (je_tup (ja_cons (je_op (o_fdiv am.py) (je_v v0) (je_v v2)) (ja_cons (je_op (o_fdiv am.py) (je_v v1) (je_v v2)) ja_nil)))))))
theorem g_fraction (KX : K.In base) (GX : base.Ns mainGlobals mg) (c : He.SaysD fa fn K) (hxb : xb K = true) (hns : BaseOk K mg base) (htr : P.given.tree = none) : FnG P w K mg base "fraction" 2 PG.sp_fraction [] ∧ FnG P w K mg base "fraction" 2 PG.sp_fraction [.d (.int 1)] := by
  obtain ⟨fd, F⟩ := c.def_ 1 (d := dd_fraction) rfl
  unfold PG.sp_fraction
  exact mkGd (N := (["numerator", "denominator", "divisor"] : List Str)) (i := 1) false hns htr F (He.glo_ok KX GX (c.fact 1 (f := .glo "fraction") rfl)) sc_fraction rfl rfl (fun T kV doc pm an cdv ct us its hu hi => match us, hu, its, hi with | [_, _], _, [_], _ => ⟨_, rfl, rfl⟩) (fun T kV doc pm an cdv ct us its hu hi => match us, hu, its, hi with | [_], _, [_], _ => ⟨_, rfl, rfl⟩) (fun X cdv A outer s H E hX hcd am => by subst hX; exact d_fraction am sc_fraction.nd rfl PassesOwn.never rfl rfl (fun _ => rfl) (g_common_divisor (P := P) (w := w) KX GX c hxb hns htr))

theorem sc_add : FnScope (["first", "second"] : List Str) (["first", "second"] : List Str) (defScope s_add) := ⟨rfl, rfl, rfl, by decide +kernel, rfl, by decide +kernel, by decide +kernel⟩
theorem d_add {X : Cx} (am : Amb 2 X) (hN : X.N.Nodup) (hc : X.calm = true) (hxe : PassesOwn (model X.prog X.w) X.A X.env X.xe) (eN : X.N = (["first", "second"] : List Str)) (eS : X.env.scope = defScope s_add) (hfn : ∀ x, X.fn x = true) (G_fraction : FnG X.prog X.w X.K X.mg X.base "fraction" 2 PG.sp_fraction []) : JSs X (defBody s_add) PG.w_add := by
  have hr := am.rm
  have n0 : X.N[0]? = some ("first" : Str) := by rw [eN]; rfl
  have v0 : SlotOk X 0 "first" := slot_of eS eN hfn rfl (.inl rfl)
  have n1 : X.N[1]? = some ("second" : Str) := by rw [eN]; rfl
  have v1 : SlotOk X 1 "second" := slot_of eS eN hfn rfl (.inl rfl)
  have gl_fraction : Gl X "fraction" := gl_of eS rfl
  exact (js_one (js_ret (je_cg G_fraction hr gl_fraction (ja_cons (je_op o_addA (je_op o_mul (je_ix (je_v v0) je_int) (je_ix (je_v v1) je_int)) (je_op o_mul (je_ix (je_v v1) je_int) (je_ix (je_v v0) je_int))) (ja_cons (je_op o_mul (je_ix (je_v v0) je_int) (je_ix (je_v v1) je_int)) ja_nil)))))
theorem g_add (KX : K.In base) (GX : base.Ns mainGlobals mg) (c : He.SaysD fa fn K) (hxb : xb K = true) (hns : BaseOk K mg base) (htr : P.given.tree = none) : FnG P w K mg base "add" 3 PG.sp_add [] := by
  obtain ⟨fd, F⟩ := c.def_ 2 (d := dd_add) rfl
  unfold PG.sp_add
  exact mkG (N := (["first", "second"] : List Str)) false hns htr F (He.glo_ok KX GX (c.fact 2 (f := .glo "add") rfl)) sc_add rfl rfl (fun _ _ _ _ _ _ us hl => match us, hl with | [_, _], _ => rfl) (fun X cdv A outer s H E hX hcd am => by subst hX; exact d_add am sc_add.nd rfl PassesOwn.never rfl rfl (fun _ => rfl) (g_fraction (P := P) (w := w) KX GX c hxb hns htr).1)

theorem sc_negative : FnScope (["value"] : List Str) (["value"] : List Str) (defScope s_negative) := ⟨rfl, rfl, rfl, by decide +kernel, rfl, by decide +kernel, by decide +kernel⟩
theorem d_negative {X : Cx} (am : Amb 0 X) (hN : X.N.Nodup) (hc : X.calm = true) (hxe : PassesOwn (model X.prog X.w) X.A X.env X.xe) (eN : X.N = (["value"] : List Str)) (eS : X.env.scope = defScope s_negative) (hfn : ∀ x, X.fn x = true) : JSs X (defBody s_negative) PG.w_negative := by
  have hr := am.rm
  have n0 : X.N[0]? = some ("value" : Str) := by rw [eN]; rfl
  have v0 : SlotOk X 0 "value" := slot_of eS eN hfn rfl (.inl rfl)
  exact (js_one (js_ret (je_tup (ja_cons (je_neg (je_ix (je_v v0) je_int)) (ja_cons (je_ix (je_v v0) je_int) ja_nil)))))
theorem g_negative (KX : K.In base) (GX : base.Ns mainGlobals mg) (c : He.SaysD fa fn K) (hxb : xb K = true) (hns : BaseOk K mg base) (htr : P.given.tree = none) : FnG P w K mg base "negative" 1 PG.sp_negative [] := by
  obtain ⟨fd, F⟩ := c.def_ 3 (d := dd_negative) rfl
  unfold PG.sp_negative
  exact mkG (N := (["value"] : List Str)) false hns htr F (He.glo_ok KX GX (c.fact 3 (f := .glo "negative") rfl)) sc_negative rfl rfl (fun _ _ _ _ _ _ us hl => match us, hl with | [_], _ => rfl) (fun X cdv A outer s H E hX hcd am => by subst hX; exact d_negative am sc_negative.nd rfl PassesOwn.never rfl rfl (fun _ => rfl))

theorem sc_subtract : FnScope (["first", "second"] : List Str) (["first", "second"] : List Str) (defScope s_subtract) := ⟨rfl, rfl, rfl, by decide +kernel, rfl, by decide +kernel, by decide +kernel⟩
theorem d_subtract {X : Cx} (am : Amb 3 X) (hN : X.N.Nodup) (hc : X.calm = true) (hxe : PassesOwn (model X.prog X.w) X.A X.env X.xe) (eN : X.N = (["first", "second"] : List Str)) (eS : X.env.scope = defScope s_subtract) (hfn : ∀ x, X.fn x = true) (G_negative : FnG X.prog X.w X.K X.mg X.base "negative" 1 PG.sp_negative []) (G_add : FnG X.prog X.w X.K X.mg X.base "add" 3 PG.sp_add []) : JSs X (defBody s_subtract) PG.w_subtract := by
  have hr := am.rm
  have n0 : X.N[0]? = some ("first" : Str) := by rw [eN]; rfl
  have v0 : SlotOk X 0 "first" := slot_of eS eN hfn rfl (.inl rfl)
  have n1 : X.N[1]? = some ("second" : Str) := by rw [eN]; rfl
  have v1 : SlotOk X 1 "second" := slot_of eS eN hfn rfl (.inl rfl)
  have gl_negative : Gl X "negative" := gl_of eS rfl
  have gl_add : Gl X "add" := gl_of eS rfl
  exact (js_one (js_ret (je_cg G_add hr gl_add (ja_cons (je_v v0) (ja_cons (je_cg G_negative hr gl_negative (ja_cons (je_v v1) ja_nil)) ja_nil)))))
theorem g_subtract (KX : K.In base) (GX : base.Ns mainGlobals mg) (c : He.SaysD fa fn K) (hxb : xb K = true) (hns : BaseOk K mg base) (htr : P.given.tree = none) : FnG P w K mg base "subtract" 4 PG.sp_subtract [] := by
  obtain ⟨fd, F⟩ := c.def_ 4 (d := dd_subtract) rfl
  unfold PG.sp_subtract
  exact mkG (N := (["first", "second"] : List Str)) false hns htr F (He.glo_ok KX GX (c.fact 4 (f := .glo "subtract") rfl)) sc_subtract rfl rfl (fun _ _ _ _ _ _ us hl => match us, hl with | [_, _], _ => rfl) (fun X cdv A outer s H E hX hcd am => by subst hX; exact d_subtract am sc_subtract.nd rfl PassesOwn.never rfl rfl (fun _ => rfl) (g_negative (P := P) (w := w) KX GX c hxb hns htr) (g_add (P := P) (w := w) KX GX c hxb hns htr))

theorem sc_sign : FnScope (["value"] : List Str) (["value"] : List Str) (defScope s_sign) := ⟨rfl, rfl, rfl, by decide +kernel, rfl, by decide +kernel, by decide +kernel⟩
theorem d_sign {X : Cx} (am : Amb 0 X) (hN : X.N.Nodup) (hc : X.calm = true) (hxe : PassesOwn (model X.prog X.w) X.A X.env X.xe) (eN : X.N = (["value"] : List Str)) (eS : X.env.scope = defScope s_sign) (hfn : ∀ x, X.fn x = true) : JSs X (defBody s_sign) PG.w_sign := by
  have hr := am.rm
  have n0 : X.N[0]? = some ("value" : Str) := by rw [eN]; rfl
  have v0 : SlotOk X 0 "value" := slot_of eS eN hfn rfl (.inl rfl)
  exact (js_cons (js_if (jt_cmp o_gt (je_ix (je_v v0) je_int) je_int (nomark _))
  (js_one (js_ret je_int))
  js_nil)
  (js_cons (js_if (jt_cmp o_lt (je_ix (je_v v0) je_int) je_int (nomark _))
  (js_one (js_ret (je_neg je_int)))
  js_nil)
  (js_one (js_ret je_int))))
theorem g_sign (KX : K.In base) (GX : base.Ns mainGlobals mg) (c : He.SaysD fa fn K) (hxb : xb K = true) (hns : BaseOk K mg base) (htr : P.given.tree = none) : FnG P w K mg base "sign" 1 PG.sp_sign [] := by
  obtain ⟨fd, F⟩ := c.def_ 5 (d := dd_sign) rfl
  unfold PG.sp_sign
  exact mkG (N := (["value"] : List Str)) false hns htr F (He.glo_ok KX GX (c.fact 5 (f := .glo "sign") rfl)) sc_sign rfl rfl (fun _ _ _ _ _ _ us hl => match us, hl with | [_], _ => rfl) (fun X cdv A outer s H E hX hcd am => by subst hX; exact d_sign am sc_sign.nd rfl PassesOwn.never rfl rfl (fun _ => rfl))

theorem sc_compare : FnScope (["first", "second"] : List Str) (["first", "second"] : List Str) (defScope s_compare) := ⟨rfl, rfl, rfl, by decide +kernel, rfl, by decide +kernel, by decide +kernel⟩
theorem d_compare {X : Cx} (am : Amb 4 X) (hN : X.N.Nodup) (hc : X.calm = true) (hxe : PassesOwn (model X.prog X.w) X.A X.env X.xe) (eN : X.N = (["first", "second"] : List Str)) (eS : X.env.scope = defScope s_compare) (hfn : ∀ x, X.fn x = true) (G_subtract : FnG X.prog X.w X.K X.mg X.base "subtract" 4 PG.sp_subtract []) (G_sign : FnG X.prog X.w X.K X.mg X.base "sign" 1 PG.sp_sign []) : JSs X (defBody s_compare) PG.w_compare := by
  have hr := am.rm
  have n0 : X.N[0]? = some ("first" : Str) := by rw [eN]; rfl
  have v0 : SlotOk X 0 "first" := slot_of eS eN hfn rfl (.inl rfl)
  have n1 : X.N[1]? = some ("second" : Str) := by rw [eN]; rfl
  have v1 : SlotOk X 1 "second" := slot_of eS eN hfn rfl (.inl rfl)
  have gl_subtract : Gl X "subtract" := gl_of eS rfl
  have gl_sign : Gl X "sign" := gl_of eS rfl
  exact (js_one (js_ret (je_cg G_sign hr gl_sign (ja_cons (je_cg G_subtract hr gl_subtract (ja_cons (je_v v0) (ja_cons (je_v v1) ja_nil))) ja_nil))))
theorem g_compare (KX : K.In base) (GX : base.Ns mainGlobals mg) (c : He.SaysD fa fn K) (hxb : xb K = true) (hns : BaseOk K mg base) (htr : P.given.tree = none) : FnG P w K mg base "compare" 5 PG.sp_compare [] := by
  obtain ⟨fd, F⟩ := c.def_ 6 (d := dd_compare) rfl
  unfold PG.sp_compare
  exact mkG (N := (["first", "second"] : List Str)) false hns htr F (He.glo_ok KX GX (c.fact 6 (f := .glo "compare") rfl)) sc_compare rfl rfl (fun _ _ _ _ _ _ us hl => match us, hl with | [_, _], _ => rfl) (fun X cdv A outer s H E hX hcd am => by subst hX; exact d_compare am sc_compare.nd rfl PassesOwn.never rfl rfl (fun _ => rfl) (g_subtract (P := P) (w := w) KX GX c hxb hns htr) (g_sign (P := P) (w := w) KX GX c hxb hns htr))

theorem sc_cross : FnScope (["one", "other"] : List Str) (["one", "other"] : List Str) (defScope s_cross) := ⟨rfl, rfl, rfl, by decide +kernel, rfl, by decide +kernel, by decide +kernel⟩
theorem d_cross {X : Cx} (am : Amb 0 X) (hN : X.N.Nodup) (hc : X.calm = true) (hxe : PassesOwn (model X.prog X.w) X.A X.env X.xe) (eN : X.N = (["one", "other"] : List Str)) (eS : X.env.scope = defScope s_cross) (hfn : ∀ x, X.fn x = true) : JSs X (defBody s_cross) PG.w_cross := by
  have hr := am.rm
  have n0 : X.N[0]? = some ("one" : Str) := by rw [eN]; rfl
  have v0 : SlotOk X 0 "one" := slot_of eS eN hfn rfl (.inl rfl)
  have n1 : X.N[1]? = some ("other" : Str) := by rw [eN]; rfl
  have v1 : SlotOk X 1 "other" := slot_of eS eN hfn rfl (.inl rfl)
  exact (js_one (js_ret (je_op o_sub (je_op o_mul (je_ix (je_v v0) je_int) (je_ix (je_v v1) je_int)) (je_op o_mul (je_ix (je_v v0) je_int) (je_ix (je_v v1) je_int)))))
theorem g_cross (KX : K.In base) (GX : base.Ns mainGlobals mg) (c : He.SaysD fa fn K) (hxb : xb K = true) (hns : BaseOk K mg base) (htr : P.given.tree = none) : FnG P w K mg base "cross" 1 PG.sp_cross [] := by
  obtain ⟨fd, F⟩ := c.def_ 7 (d := dd_cross) rfl
  unfold PG.sp_cross
  exact mkG (N := (["one", "other"] : List Str)) false hns htr F (He.glo_ok KX GX (c.fact 7 (f := .glo "cross") rfl)) sc_cross rfl rfl (fun _ _ _ _ _ _ us hl => match us, hl with | [_, _], _ => rfl) (fun X cdv A outer s H E hX hcd am => by subst hX; exact d_cross am sc_cross.nd rfl PassesOwn.never rfl rfl (fun _ => rfl))

theorem sc_dot : FnScope (["one", "other"] : List Str) (["one", "other"] : List Str) (defScope s_dot) := ⟨rfl, rfl, rfl, by decide +kernel, rfl, by decide +kernel, by decide +kernel⟩
theorem d_dot {X : Cx} (am : Amb 0 X) (hN : X.N.Nodup) (hc : X.calm = true) (hxe : PassesOwn (model X.prog X.w) X.A X.env X.xe) (eN : X.N = (["one", "other"] : List Str)) (eS : X.env.scope = defScope s_dot) (hfn : ∀ x, X.fn x = true) : JSs X (defBody s_dot) PG.w_dot := by
  have hr := am.rm
  have n0 : X.N[0]? = some ("one" : Str) := by rw [eN]; rfl
  have v0 : SlotOk X 0 "one" := slot_of eS eN hfn rfl (.inl rfl)
  have n1 : X.N[1]? = some ("other" : Str) := by rw [eN]; rfl
  have v1 : SlotOk X 1 "other" := slot_of eS eN hfn rfl (.inl rfl)
  exact (js_one (js_ret (je_op o_addA (je_op o_mul (je_ix (je_v v0) je_int) (je_ix (je_v v1) je_int)) (je_op o_mul (je_ix (je_v v0) je_int) (je_ix (je_v v1) je_int)))))
theorem g_dot (KX : K.In base) (GX : base.Ns mainGlobals mg) (c : He.SaysD fa fn K) (hxb : xb K = true) (hns : BaseOk K mg base) (htr : P.given.tree = none) : FnG P w K mg base "dot" 1 PG.sp_dot [] := by
  obtain ⟨fd, F⟩ := c.def_ 8 (d := dd_dot) rfl
  unfold PG.sp_dot
  exact mkG (N := (["one", "other"] : List Str)) false hns htr F (He.glo_ok KX GX (c.fact 8 (f := .glo "dot") rfl)) sc_dot rfl rfl (fun _ _ _ _ _ _ us hl => match us, hl with | [_, _], _ => rfl) (fun X cdv A outer s H E hX hcd am => by subst hX; exact d_dot am sc_dot.nd rfl PassesOwn.never rfl rfl (fun _ => rfl))

theorem sc_opposite : FnScope (["half_plane"] : List Str) (["half_plane"] : List Str) (defScope s_opposite) := ⟨rfl, rfl, rfl, by decide +kernel, rfl, by decide +kernel, by decide +kernel⟩
theorem d_opposite {X : Cx} (am : Amb 0 X) (hN : X.N.Nodup) (hc : X.calm = true) (hxe : PassesOwn (model X.prog X.w) X.A X.env X.xe) (eN : X.N = (["half_plane"] : List Str)) (eS : X.env.scope = defScope s_opposite) (hfn : ∀ x, X.fn x = true) : JSs X (defBody s_opposite) PG.w_opposite := by
  have hr := am.rm
  have n0 : X.N[0]? = some ("half_plane" : Str) := by rw [eN]; rfl
  have v0 : SlotOk X 0 "half_plane" := slot_of eS eN hfn rfl (.inl rfl)
  exact (js_one (js_ret (je_tup (ja_cons (je_neg (je_ix (je_v v0) je_int)) (ja_cons (je_neg (je_ix (je_v v0) je_int)) (ja_cons (je_neg (je_ix (je_v v0) je_int)) ja_nil))))))
theorem g_opposite (KX : K.In base) (GX : base.Ns mainGlobals mg) (c : He.SaysD fa fn K) (hxb : xb K = true) (hns : BaseOk K mg base) (htr : P.given.tree = none) : FnG P w K mg base "opposite" 1 PG.sp_opposite [] := by
  obtain ⟨fd, F⟩ := c.def_ 9 (d := dd_opposite) rfl
  unfold PG.sp_opposite
  exact mkG (N := (["half_plane"] : List Str)) false hns htr F (He.glo_ok KX GX (c.fact 9 (f := .glo "opposite") rfl)) sc_opposite rfl rfl (fun _ _ _ _ _ _ us hl => match us, hl with | [_], _ => rfl) (fun X cdv A outer s H E hX hcd am => by subst hX; exact d_opposite am sc_opposite.nd rfl PassesOwn.never rfl rfl (fun _ => rfl))

theorem sc_reach : FnScope (["half_plane"] : List Str) (["half_plane"] : List Str) (defScope s_reach) := ⟨rfl, rfl, rfl, by decide +kernel, rfl, by decide +kernel, by decide +kernel⟩
theorem d_reach {X : Cx} (am : Amb 2 X) (hN : X.N.Nodup) (hc : X.calm = true) (hxe : PassesOwn (model X.prog X.w) X.A X.env X.xe) (eN : X.N = (["half_plane"] : List Str)) (eS : X.env.scope = defScope s_reach) (hfn : ∀ x, X.fn x = true) (fr_abs : X.mg "abs" = none) (G_fraction : FnG X.prog X.w X.K X.mg X.base "fraction" 2 PG.sp_fraction []) : JSs X (defBody s_reach) PG.w_reach := by
  have hr := am.rm
  have n0 : X.N[0]? = some ("half_plane" : Str) := by rw [eN]; rfl
  have v0 : SlotOk X 0 "half_plane" := slot_of eS eN hfn rfl (.inl rfl)
  have gl_abs : Gl X "abs" := gl_of eS rfl
  have gl_fraction : Gl X "fraction" := gl_of eS rfl
  exact (js_one (js_ret (je_cg G_fraction hr gl_fraction (ja_cons (je_ix (je_v v0) je_int) (ja_cons (je_op o_addA (je_bi b_abs gl_abs fr_abs RT.boot_abs (ja_cons (je_ix (je_v v0) je_int) ja_nil)) (je_bi b_abs gl_abs fr_abs RT.boot_abs (ja_cons (je_ix (je_v v0) je_int) ja_nil))) ja_nil)))))
theorem g_reach (KX : K.In base) (GX : base.Ns mainGlobals mg) (c : He.SaysD fa fn K) (hxb : xb K = true) (hns : BaseOk K mg base) (htr : P.given.tree = none) : FnG P w K mg base "reach" 3 PG.sp_reach [] := by
  obtain ⟨fd, F⟩ := c.def_ 10 (d := dd_reach) rfl
  unfold PG.sp_reach
  exact mkG (N := (["half_plane"] : List Str)) false hns htr F (He.glo_ok KX GX (c.fact 10 (f := .glo "reach") rfl)) sc_reach rfl rfl (fun _ _ _ _ _ _ us hl => match us, hl with | [_], _ => rfl) (fun X cdv A outer s H E hX hcd am => by subst hX; exact d_reach am sc_reach.nd rfl PassesOwn.never rfl rfl (fun _ => rfl) (He.free_ok KX GX (c.fact 30 (f := .free "abs") rfl)) (g_fraction (P := P) (w := w) KX GX c hxb hns htr).1)

theorem sc_in_first_half : FnScope (["half_plane"] : List Str) (["half_plane"] : List Str) (defScope s_in_first_half) := ⟨rfl, rfl, rfl, by decide +kernel, rfl, by decide +kernel, by decide +kernel⟩
theorem d_in_first_half {X : Cx} (am : Amb 0 X) (hN : X.N.Nodup) (hc : X.calm = true) (hxe : PassesOwn (model X.prog X.w) X.A X.env X.xe) (eN : X.N = (["half_plane"] : List Str)) (eS : X.env.scope = defScope s_in_first_half) (hfn : ∀ x, X.fn x = true) : JSs X (defBody s_in_first_half) PG.w_in_first_half := by
  have hr := am.rm
  have n0 : X.N[0]? = some ("half_plane" : Str) := by rw [eN]; rfl
  have v0 : SlotOk X 0 "half_plane" := slot_of eS eN hfn rfl (.inl rfl)
  exact (js_one (js_ret (je_or (je_cmp o_gt (je_ix (je_v v0) je_int) je_int (nomark _)) (je_one (je_and (je_cmp (o_eq hr) (je_ix (je_v v0) je_int) je_int (nomark _)) (je_one (je_cmp o_gt (je_ix (je_v v0) je_int) je_int (nomark _))))))))
theorem g_in_first_half (KX : K.In base) (GX : base.Ns mainGlobals mg) (c : He.SaysD fa fn K) (hxb : xb K = true) (hns : BaseOk K mg base) (htr : P.given.tree = none) : FnG P w K mg base "in_first_half" 1 PG.sp_in_first_half [] := by
  obtain ⟨fd, F⟩ := c.def_ 11 (d := dd_in_first_half) rfl
  unfold PG.sp_in_first_half
  exact mkG (N := (["half_plane"] : List Str)) false hns htr F (He.glo_ok KX GX (c.fact 11 (f := .glo "in_first_half") rfl)) sc_in_first_half rfl rfl (fun _ _ _ _ _ _ us hl => match us, hl with | [_], _ => rfl) (fun X cdv A outer s H E hX hcd am => by subst hX; exact d_in_first_half am sc_in_first_half.nd rfl PassesOwn.never rfl rfl (fun _ => rfl))

theorem sc_comes_before : FnScope (["one", "other", "turn"] : List Str) (["one", "other"] : List Str) (defScope s_comes_before) := ⟨rfl, rfl, rfl, by decide +kernel, rfl, by decide +kernel, by decide +kernel⟩
theorem d_comes_before {X : Cx} (am : Amb 5 X) (hN : X.N.Nodup) (hc : X.calm = true) (hxe : PassesOwn (model X.prog X.w) X.A X.env X.xe) (eN : X.N = (["one", "other", "turn"] : List Str)) (eS : X.env.scope = defScope s_comes_before) (hfn : ∀ x, X.fn x = true) (G_in_first_half : FnG X.prog X.w X.K X.mg X.base "in_first_half" 1 PG.sp_in_first_half []) (G_cross : FnG X.prog X.w X.K X.mg X.base "cross" 1 PG.sp_cross []) (G_reach : FnG X.prog X.w X.K X.mg X.base "reach" 3 PG.sp_reach []) (G_compare : FnG X.prog X.w X.K X.mg X.base "compare" 5 PG.sp_compare []) : JSs X (defBody s_comes_before) PG.w_comes_before := by
  have hr := am.rm
  have n0 : X.N[0]? = some ("one" : Str) := by rw [eN]; rfl
  have v0 : SlotOk X 0 "one" := slot_of eS eN hfn rfl (.inl rfl)
  have n1 : X.N[1]? = some ("other" : Str) := by rw [eN]; rfl
  have v1 : SlotOk X 1 "other" := slot_of eS eN hfn rfl (.inl rfl)
  have n2 : X.N[2]? = some ("turn" : Str) := by rw [eN]; rfl
  have v2 : SlotOk X 2 "turn" := slot_of eS eN hfn rfl (.inl rfl)
  have gl_in_first_half : Gl X "in_first_half" := gl_of eS rfl
  have gl_cross : Gl X "cross" := gl_of eS rfl
  have gl_reach : Gl X "reach" := gl_of eS rfl
  have gl_compare : Gl X "compare" := gl_of eS rfl
  exact (js_cons (js_if (jt_cmp (o_ne hr) (je_cg G_in_first_half hr gl_in_first_half (ja_cons (je_v v0) ja_nil)) (je_cg G_in_first_half hr gl_in_first_half (ja_cons (je_v v1) ja_nil)) (nomark _))
  (js_one (js_ret (je_cg G_in_first_half hr gl_in_first_half (ja_cons (je_v v0) ja_nil))))
  js_nil)
  (js_cons (js_st hN v2 (je_cg G_cross hr gl_cross (ja_cons (je_v v0) (ja_cons (je_v v1) ja_nil))))
  (js_cons (js_if (jt_cmp (o_ne hr) (je_v v2) je_int (nomark _))
  (js_one (js_ret (je_cmp o_gt (je_v v2) je_int (nomark _))))
  js_nil)
  (js_one (js_ret (je_cmp o_lt (je_cg G_compare hr gl_compare (ja_cons (je_cg G_reach hr gl_reach (ja_cons (je_v v0) ja_nil)) (ja_cons (je_cg G_reach hr gl_reach (ja_cons (je_v v1) ja_nil)) ja_nil))) je_int (nomark _)))))))
theorem g_comes_before (KX : K.In base) (GX : base.Ns mainGlobals mg) (c : He.SaysD fa fn K) (hxb : xb K = true) (hns : BaseOk K mg base) (htr : P.given.tree = none) : FnG P w K mg base "comes_before" 6 PG.sp_comes_before [] := by
  obtain ⟨fd, F⟩ := c.def_ 12 (d := dd_comes_before) rfl
  unfold PG.sp_comes_before
  exact mkG (N := (["one", "other", "turn"] : List Str)) false hns htr F (He.glo_ok KX GX (c.fact 12 (f := .glo "comes_before") rfl)) sc_comes_before rfl rfl (fun _ _ _ _ _ _ us hl => match us, hl with | [_, _], _ => rfl) (fun X cdv A outer s H E hX hcd am => by subst hX; exact d_comes_before am sc_comes_before.nd rfl PassesOwn.never rfl rfl (fun _ => rfl) (g_in_first_half (P := P) (w := w) KX GX c hxb hns htr) (g_cross (P := P) (w := w) KX GX c hxb hns htr) (g_reach (P := P) (w := w) KX GX c hxb hns htr) (g_compare (P := P) (w := w) KX GX c hxb hns htr))

theorem sc_in_order : FnScope (["half_planes", "found", "half_plane", "place", "one"] : List Str) (["half_planes"] : List Str) (defScope s_in_order) := ⟨rfl, rfl, rfl, by decide +kernel, rfl, by decide +kernel, by decide +kernel⟩
theorem d_in_order {X : Cx} (am : Amb 6 X) (hN : X.N.Nodup) (hc : X.calm = true) (hxe : PassesOwn (model X.prog X.w) X.A X.env X.xe) (eN : X.N = (["half_planes", "found", "half_plane", "place", "one"] : List Str)) (eS : X.env.scope = defScope s_in_order) (hfn : ∀ x, X.fn x = true) (fr_len : X.mg "len" = none) (G_comes_before : FnG X.prog X.w X.K X.mg X.base "comes_before" 6 PG.sp_comes_before []) : JSs X (defBody s_in_order) PG.w_in_order := by
  have hr := am.rm
  have n0 : X.N[0]? = some ("half_planes" : Str) := by rw [eN]; rfl
  have v0 : SlotOk X 0 "half_planes" := slot_of eS eN hfn rfl (.inl rfl)
  have n1 : X.N[1]? = some ("found" : Str) := by rw [eN]; rfl
  have v1 : SlotOk X 1 "found" := slot_of eS eN hfn rfl (.inl rfl)
  have n2 : X.N[2]? = some ("half_plane" : Str) := by rw [eN]; rfl
  have v2 : SlotOk X 2 "half_plane" := slot_of eS eN hfn rfl (.inr rfl)
  have n3 : X.N[3]? = some ("place" : Str) := by rw [eN]; rfl
  have v3 : SlotOk X 3 "place" := slot_of eS eN hfn rfl (.inl rfl)
  have n4 : X.N[4]? = some ("one" : Str) := by rw [eN]; rfl
  have gl_len : Gl X "len" := gl_of eS rfl
  exact (js_cons (js_st hN v1 (je_lstO ja_nil))
  (js_cons (js_for hxe hc (ji_any (je_v v0)) (jg_of (pg_v hN v2))
  (js_one (js_if (jt_cmp (o_notIn hr) (je_v v2) (je_v v1) rfl)
  (js_cons (js_st hN v3 (je_bi b_len gl_len fr_len RT.boot_len (ja_cons (je_lc false (own' := [("one", 4)]) (by decide) hc hN (ji_any (je_v v1)) (blk_of eN eS (own := [("one", 4)]) (by decide +kernel)) (fun s H C cl fp => (jg_of (pg_name (i := 4) hN n4 (by first | exact .inl rfl | exact .inr rfl)))) (fun s H C cl fp => (jts_one (jt_tru (je_cg G_comes_before hr (by rfl) (ja_cons (je_var 4 n4 (hv := .inl rfl)) (ja_cons (je_var 2 n2 (hv := vis_free (by decide +kernel))) ja_nil)))))) (fun s H C cl fp => (je_var 4 n4 (hv := .inl rfl)))) ja_nil)))
  (js_one (js_do (je_meth PySem.F.slot_list_insert PySem.F.type_list_insert m_insert (je_v v1) (ja_cons (je_v v3) (ja_cons (je_v v2) ja_nil))))))
  js_nil)))
  (js_one (js_ret (je_v v1)))))
theorem g_in_order (KX : K.In base) (GX : base.Ns mainGlobals mg) (c : He.SaysD fa fn K) (hxb : xb K = true) (hns : BaseOk K mg base) (htr : P.given.tree = none) : FnG P w K mg base "in_order" 7 PG.sp_in_order [] := by
  obtain ⟨fd, F⟩ := c.def_ 13 (d := dd_in_order) rfl
  unfold PG.sp_in_order
  exact mkG (N := (["half_planes", "found", "half_plane", "place", "one"] : List Str)) false hns htr F (He.glo_ok KX GX (c.fact 13 (f := .glo "in_order") rfl)) sc_in_order rfl rfl (fun _ _ _ _ _ _ us hl => match us, hl with | [_], _ => rfl) (fun X cdv A outer s H E hX hcd am => by subst hX; exact d_in_order am sc_in_order.nd rfl PassesOwn.never rfl rfl (fun _ => rfl) (He.free_ok KX GX (c.fact 31 (f := .free "len") rfl)) (g_comes_before (P := P) (w := w) KX GX c hxb hns htr))

theorem sc__law_cell : FnScope (["_law_script", "_law_k"] : List Str) (["_law_script", "_law_k"] : List Str) (defScope s__law_cell) := ⟨rfl, rfl, rfl, by decide +kernel, rfl, by decide +kernel, by decide +kernel⟩
theorem d__law_cell {X : Cx} (am : Amb 0 X) (hN : X.N.Nodup) (hc : X.calm = true) (hxe : PassesOwn (model X.prog X.w) X.A X.env X.xe) (eN : X.N = (["_law_script", "_law_k"] : List Str)) (eS : X.env.scope = defScope s__law_cell) (hfn : ∀ x, X.fn x = true) (fr_len : X.mg "len" = none) : JSs X (defBody s__law_cell) PG.w__law_cell := by
  have hr := am.rm
  have n0 : X.N[0]? = some ("_law_script" : Str) := by rw [eN]; rfl
  have v0 : SlotOk X 0 "_law_script" := slot_of eS eN hfn rfl (.inl rfl)
  have n1 : X.N[1]? = some ("_law_k" : Str) := by rw [eN]; rfl
  have v1 : SlotOk X 1 "_law_k" := slot_of eS eN hfn rfl (.inl rfl)
  have gl_len : Gl X "len" := gl_of eS rfl
  exact (js_cons (js_if (jt_cmp o_lt (je_v v1) (je_bi b_len gl_len fr_len RT.boot_len (ja_cons (je_v v0) ja_nil)) (nomark _))
  (js_one (js_ret (je_ix (je_v v0) (je_v v1))))
  js_nil)
  (js_one (js_ret je_int)))
theorem g__law_cell (KX : K.In base) (GX : base.Ns mainGlobals mg) (c : He.SaysD fa fn K) (hxb : xb K = true) (hns : BaseOk K mg base) (htr : P.given.tree = none) : FnG P w K mg base "_law_cell" 1 PG.sp__law_cell [] := by
  obtain ⟨fd, F⟩ := c.def_ 14 (d := dd__law_cell) rfl
  unfold PG.sp__law_cell
  exact mkG (N := (["_law_script", "_law_k"] : List Str)) false hns htr F (He.glo_ok KX GX (c.fact 14 (f := .glo "_law_cell") rfl)) sc__law_cell rfl rfl (fun _ _ _ _ _ _ us hl => match us, hl with | [_, _], _ => rfl) (fun X cdv A outer s H E hX hcd am => by subst hX; exact d__law_cell am sc__law_cell.nd rfl PassesOwn.never rfl rfl (fun _ => rfl) (He.free_ok KX GX (c.fact 31 (f := .free "len") rfl)))

theorem sc__law_row : FnScope (["_law_cell_here", "_law_k", "_law_many", "_law_row_here", "_law_turn", "_law_seed"] : List Str) (["_law_cell_here", "_law_k", "_law_many"] : List Str) (defScope s__law_row) := ⟨rfl, rfl, rfl, by decide +kernel, rfl, by decide +kernel, by decide +kernel⟩
theorem d__law_row {X : Cx} (am : Amb 0 X) (hN : X.N.Nodup) (hc : X.calm = true) (hxe : PassesOwn (model X.prog X.w) X.A X.env X.xe) (eN : X.N = (["_law_cell_here", "_law_k", "_law_many", "_law_row_here", "_law_turn", "_law_seed"] : List Str)) (eS : X.env.scope = defScope s__law_row) (hfn : ∀ x, X.fn x = true) (fr_range : X.mg "range" = none) (fr_len : X.mg "len" = none) (fr_int : X.mg "int" = none) : JSs X (defBody s__law_row) PG.w__law_row := by
  have hr := am.rm
  have n0 : X.N[0]? = some ("_law_cell_here" : Str) := by rw [eN]; rfl
  have v0 : SlotOk X 0 "_law_cell_here" := slot_of eS eN hfn rfl (.inl rfl)
  have n1 : X.N[1]? = some ("_law_k" : Str) := by rw [eN]; rfl
  have v1 : SlotOk X 1 "_law_k" := slot_of eS eN hfn rfl (.inl rfl)
  have n2 : X.N[2]? = some ("_law_many" : Str) := by rw [eN]; rfl
  have v2 : SlotOk X 2 "_law_many" := slot_of eS eN hfn rfl (.inl rfl)
  have n3 : X.N[3]? = some ("_law_row_here" : Str) := by rw [eN]; rfl
  have v3 : SlotOk X 3 "_law_row_here" := slot_of eS eN hfn rfl (.inl rfl)
  have n4 : X.N[4]? = some ("_law_turn" : Str) := by rw [eN]; rfl
  have v4 : SlotOk X 4 "_law_turn" := slot_of eS eN hfn rfl (.inl rfl)
  have n5 : X.N[5]? = some ("_law_seed" : Str) := by rw [eN]; rfl
  have v5 : SlotOk X 5 "_law_seed" := slot_of eS eN hfn rfl (.inl rfl)
  have gl_range : Gl X "range" := gl_of eS rfl
  have gl_len : Gl X "len" := gl_of eS rfl
  have gl_int : Gl X "int" := gl_of eS rfl
  exact (js_cons (js_st hN v3 (je_lstO ja_nil))
  (js_cons (js_if (jt_cmp o_lt (je_v v0) je_int (nomark _))
  (js_one (js_st hN v0 (je_op o_sub je_int (je_op o_mul je_int (je_v v0)))))
  js_nil)
  (js_cons (js_if (jt_cmp o_ge (je_v v0) (je_op o_pow je_int je_int) (nomark _))
  (js_cons (js_for hxe hc (ji_range1 gl_range fr_range (ja_cons je_int ja_nil)) (jg_of (pg_v hN v4))
  (js_one (js_if (jw_pt (jw_and (jt_cmp o_gt (je_v v0) je_int (nomark _)) (jw_and1 (jt_cmp o_lt (je_bi b_len gl_len fr_len RT.boot_len (ja_cons (je_v v3) ja_nil)) (je_v v2) (nomark _)))))
  (js_cons (js_do (je_meth PySem.F.slot_list_append PySem.F.type_list_append m_append (je_v v3) (ja_cons (je_op o_mod (je_bty b_int gl_int fr_int RT.boot_int (ja_cons (je_v v0) ja_nil)) je_int) ja_nil)))
  (js_one (js_st hN v0 (je_op (o_fdiv am.py) (je_v v0) je_int))))
  js_nil)))
  (js_one (js_ret (je_v v3))))
  js_nil)
  (js_cons (js_st hN v5 (je_op o_mod (je_bty b_int gl_int fr_int RT.boot_int (ja_cons (je_op o_addA (je_op o_addA (je_op o_mul (je_v v0) je_int) (je_op o_mul (je_v v1) je_int)) je_int) ja_nil)) je_int))
  (js_cons (js_for hxe hc (ji_range1 gl_range fr_range (ja_cons (je_v v2) ja_nil)) (jg_of (pg_v hN v4))
  (js_cons (js_st hN v5 (je_op o_mod (je_bty b_int gl_int fr_int RT.boot_int (ja_cons (je_op o_addA (je_op o_addA (je_op o_mul (je_v v5) je_int) (je_op o_mul je_int (je_v v4))) je_int) ja_nil)) je_int))
  (js_one (js_do (je_meth PySem.F.slot_list_append PySem.F.type_list_append m_append (je_v v3) (ja_cons (je_op o_mod (je_bty b_int gl_int fr_int RT.boot_int (ja_cons (je_op (o_fdiv am.py) (je_v v5) je_int) ja_nil)) je_int) ja_nil))))))
  (js_one (js_ret (je_v v3))))))))
theorem g__law_row (KX : K.In base) (GX : base.Ns mainGlobals mg) (c : He.SaysD fa fn K) (hxb : xb K = true) (hns : BaseOk K mg base) (htr : P.given.tree = none) : FnG P w K mg base "_law_row" 1 PG.sp__law_row [] := by
  obtain ⟨fd, F⟩ := c.def_ 15 (d := dd__law_row) rfl
  unfold PG.sp__law_row
  exact mkG (N := (["_law_cell_here", "_law_k", "_law_many", "_law_row_here", "_law_turn", "_law_seed"] : List Str)) false hns htr F (He.glo_ok KX GX (c.fact 15 (f := .glo "_law_row") rfl)) sc__law_row rfl rfl (fun _ _ _ _ _ _ us hl => match us, hl with | [_, _, _], _ => rfl) (fun X cdv A outer s H E hX hcd am => by subst hX; exact d__law_row am sc__law_row.nd rfl PassesOwn.never rfl rfl (fun _ => rfl) (He.free_ok KX GX (c.fact 32 (f := .free "range") rfl)) (He.free_ok KX GX (c.fact 31 (f := .free "len") rfl)) (He.free_ok KX GX (c.fact 33 (f := .free "int") rfl)))

theorem sc__law_box : FnScope (["_law_script", "_law_first", "_law_last", "_law_row_here", "_law_k"] : List Str) (["_law_script", "_law_first", "_law_last"] : List Str) (defScope s__law_box) := ⟨rfl, rfl, rfl, by decide +kernel, rfl, by decide +kernel, by decide +kernel⟩
theorem d__law_box {X : Cx} (am : Amb 1 X) (hN : X.N.Nodup) (hc : X.calm = true) (hxe : PassesOwn (model X.prog X.w) X.A X.env X.xe) (eN : X.N = (["_law_script", "_law_first", "_law_last", "_law_row_here", "_law_k"] : List Str)) (eS : X.env.scope = defScope s__law_box) (hfn : ∀ x, X.fn x = true) (fr_range : X.mg "range" = none) (G__law_cell : FnG X.prog X.w X.K X.mg X.base "_law_cell" 1 PG.sp__law_cell []) (G__law_row : FnG X.prog X.w X.K X.mg X.base "_law_row" 1 PG.sp__law_row []) : JSs X (defBody s__law_box) PG.w__law_box := by
  have hr := am.rm
  have n0 : X.N[0]? = some ("_law_script" : Str) := by rw [eN]; rfl
  have v0 : SlotOk X 0 "_law_script" := slot_of eS eN hfn rfl (.inl rfl)
  have n1 : X.N[1]? = some ("_law_first" : Str) := by rw [eN]; rfl
  have v1 : SlotOk X 1 "_law_first" := slot_of eS eN hfn rfl (.inl rfl)
  have n2 : X.N[2]? = some ("_law_last" : Str) := by rw [eN]; rfl
  have v2 : SlotOk X 2 "_law_last" := slot_of eS eN hfn rfl (.inl rfl)
  have n3 : X.N[3]? = some ("_law_row_here" : Str) := by rw [eN]; rfl
  have v3 : SlotOk X 3 "_law_row_here" := slot_of eS eN hfn rfl (.inl rfl)
  have n4 : X.N[4]? = some ("_law_k" : Str) := by rw [eN]; rfl
  have v4 : SlotOk X 4 "_law_k" := slot_of eS eN hfn rfl (.inl rfl)
  have gl_range : Gl X "range" := gl_of eS rfl
  have gl__law_cell : Gl X "_law_cell" := gl_of eS rfl
  have gl__law_row : Gl X "_law_row" := gl_of eS rfl
  exact (js_cons (js_st hN v3 (je_lst ja_nil))
  (js_cons (js_for hxe hc (ji_range2 gl_range fr_range (ja_cons (je_v v1) (ja_cons (je_v v2) ja_nil))) (jg_of (pg_v hN v4))
  (js_one (js_st hN v3 (je_op o_addA (je_v v3) (je_cg G__law_row hr gl__law_row (ja_cons (je_cg G__law_cell hr gl__law_cell (ja_cons (je_v v0) (ja_cons (je_v v4) ja_nil))) (ja_cons (je_v v4) (ja_cons je_int ja_nil))))))))
  (js_one (js_ret (je_lstO (ja_cons (je_v v3) (ja_cons je_int ja_nil)))))))
theorem g__law_box (KX : K.In base) (GX : base.Ns mainGlobals mg) (c : He.SaysD fa fn K) (hxb : xb K = true) (hns : BaseOk K mg base) (htr : P.given.tree = none) : FnG P w K mg base "_law_box" 2 PG.sp__law_box [] := by
  obtain ⟨fd, F⟩ := c.def_ 16 (d := dd__law_box) rfl
  unfold PG.sp__law_box
  exact mkG (N := (["_law_script", "_law_first", "_law_last", "_law_row_here", "_law_k"] : List Str)) true hns htr F (He.glo_ok KX GX (c.fact 16 (f := .glo "_law_box") rfl)) sc__law_box rfl rfl (fun _ _ _ _ _ _ us hl => match us, hl with | [_, _, _], _ => rfl) (fun X cdv A outer s H E hX hcd am => by subst hX; exact d__law_box am sc__law_box.nd rfl PassesOwn.never rfl rfl (fun _ => rfl) (He.free_ok KX GX (c.fact 32 (f := .free "range") rfl)) (g__law_cell (P := P) (w := w) KX GX c hxb hns htr) (g__law_row (P := P) (w := w) KX GX c hxb hns htr))

theorem sc__law_draw : FnScope (["_law_box_here", "_law_many", "_law_at"] : List Str) (["_law_box_here", "_law_many"] : List Str) (defScope s__law_draw) := ⟨rfl, rfl, rfl, by decide +kernel, rfl, by decide +kernel, by decide +kernel⟩
theorem d__law_draw {X : Cx} (am : Amb 0 X) (hN : X.N.Nodup) (hc : X.calm = true) (hxe : PassesOwn (model X.prog X.w) X.A X.env X.xe) (eN : X.N = (["_law_box_here", "_law_many", "_law_at"] : List Str)) (eS : X.env.scope = defScope s__law_draw) (hfn : ∀ x, X.fn x = true) (fr_len : X.mg "len" = none) (fr_int : X.mg "int" = none) : JSs X (defBody s__law_draw) PG.w__law_draw_2 := by
  have hr := am.rm
  have n0 : X.N[0]? = some ("_law_box_here" : Str) := by rw [eN]; rfl
  have v0 : SlotOk X 0 "_law_box_here" := slot_of eS eN hfn rfl (.inl rfl)
  have n1 : X.N[1]? = some ("_law_many" : Str) := by rw [eN]; rfl
  have v1 : SlotOk X 1 "_law_many" := slot_of eS eN hfn rfl (.inl rfl)
  have n2 : X.N[2]? = some ("_law_at" : Str) := by rw [eN]; rfl
  have v2 : SlotOk X 2 "_law_at" := slot_of eS eN hfn rfl (.inl rfl)
  have gl_len : Gl X "len" := gl_of eS rfl
  have gl_int : Gl X "int" := gl_of eS rfl
  exact (js_cons (js_st hN v2 (je_ix (je_v v0) je_int))
  (js_cons (js_setIx (je_op o_addA (je_v v2) je_int) (pg_sub (je_v v0) je_int set_list))
  (js_cons (js_if (jt_cmp o_lt (je_v v2) (je_bi b_len gl_len fr_len RT.boot_len (ja_cons (je_ix (je_v v0) je_int) ja_nil)) (nomark _))
  (js_one (js_ret (je_op o_mod (je_bty b_int gl_int fr_int RT.boot_int (ja_cons (je_ix (je_ix (je_v v0) je_int) (je_v v2)) ja_nil)) (je_v v1))))
  js_nil)
  (js_one (js_ret (je_op o_mod (je_bty b_int gl_int fr_int RT.boot_int (ja_cons (je_op o_addA (je_op o_mul (je_v v2) je_int) je_int) ja_nil)) (je_v v1)))))))
theorem g__law_draw (KX : K.In base) (GX : base.Ns mainGlobals mg) (c : He.SaysD fa fn K) (hxb : xb K = true) (hns : BaseOk K mg base) (htr : P.given.tree = none) : FnG P w K mg base "_law_draw" 1 PG.sp__law_draw_2 [] := by
  obtain ⟨fd, F⟩ := c.def_ 17 (d := dd__law_draw) rfl
  unfold PG.sp__law_draw_2
  exact mkG (N := (["_law_box_here", "_law_many", "_law_at"] : List Str)) false hns htr F (He.glo_ok KX GX (c.fact 17 (f := .glo "_law_draw") rfl)) sc__law_draw rfl rfl (fun _ _ _ _ _ _ us hl => match us, hl with | [_, _], _ => rfl) (fun X cdv A outer s H E hX hcd am => by subst hX; exact d__law_draw am sc__law_draw.nd rfl PassesOwn.never rfl rfl (fun _ => rfl) (He.free_ok KX GX (c.fact 31 (f := .free "len") rfl)) (He.free_ok KX GX (c.fact 33 (f := .free "int") rfl)))

theorem sc__law_same : FnScope (["_law_one", "_law_other"] : List Str) (["_law_one", "_law_other"] : List Str) (defScope s__law_same) := ⟨rfl, rfl, rfl, by decide +kernel, rfl, by decide +kernel, by decide +kernel⟩
theorem d__law_same {X : Cx} (am : Amb 0 X) (hN : X.N.Nodup) (hc : X.calm = true) (hxe : PassesOwn (model X.prog X.w) X.A X.env X.xe) (eN : X.N = (["_law_one", "_law_other"] : List Str)) (eS : X.env.scope = defScope s__law_same) (hfn : ∀ x, X.fn x = true) (fr_repr : X.mg "repr" = none) : JSs X (defBody s__law_same) PG.w__law_same := by
  have hr := am.rm
  have n0 : X.N[0]? = some ("_law_one" : Str) := by rw [eN]; rfl
  have v0 : SlotOk X 0 "_law_one" := slot_of eS eN hfn rfl (.inl rfl)
  have n1 : X.N[1]? = some ("_law_other" : Str) := by rw [eN]; rfl
  have v1 : SlotOk X 1 "_law_other" := slot_of eS eN hfn rfl (.inl rfl)
  have gl_repr : Gl X "repr" := gl_of eS rfl
  exact (js_one (js_ret (je_cmp o_eqT (je_bi (b_repr hr) gl_repr fr_repr RT.boot_repr (ja_cons (je_v v0) ja_nil)) (je_bi (b_repr hr) gl_repr fr_repr RT.boot_repr (ja_cons (je_v v1) ja_nil)) (nomark _))))
theorem g__law_same (KX : K.In base) (GX : base.Ns mainGlobals mg) (c : He.SaysD fa fn K) (hxb : xb K = true) (hns : BaseOk K mg base) (htr : P.given.tree = none) : FnG P w K mg base "_law_same" 1 PG.sp__law_same [] := by
  obtain ⟨fd, F⟩ := c.def_ 18 (d := dd__law_same) rfl
  unfold PG.sp__law_same
  exact mkG (N := (["_law_one", "_law_other"] : List Str)) false hns htr F (He.glo_ok KX GX (c.fact 18 (f := .glo "_law_same") rfl)) sc__law_same rfl rfl (fun _ _ _ _ _ _ us hl => match us, hl with | [_, _], _ => rfl) (fun X cdv A outer s H E hX hcd am => by subst hX; exact d__law_same am sc__law_same.nd rfl PassesOwn.never rfl rfl (fun _ => rfl) (He.free_ok KX GX (c.fact 34 (f := .free "repr") rfl)))

theorem sc__law_frac : FnScope (["_law_top", "_law_bottom", "_law_one", "_law_other"] : List Str) (["_law_top", "_law_bottom"] : List Str) (defScope s__law_frac) := ⟨rfl, rfl, rfl, by decide +kernel, rfl, by decide +kernel, by decide +kernel⟩
theorem d__law_frac {X : Cx} (am : Amb 0 X) (hN : X.N.Nodup) (hc : X.calm = true) (hxe : PassesOwn (model X.prog X.w) X.A X.env X.xe) (eN : X.N = (["_law_top", "_law_bottom", "_law_one", "_law_other"] : List Str)) (eS : X.env.scope = defScope s__law_frac) (hfn : ∀ x, X.fn x = true) (fr_abs : X.mg "abs" = none) (fr_int : X.mg "int" = none) : JSs X (defBody s__law_frac) PG.w__law_frac := by
  have hr := am.rm
  have n0 : X.N[0]? = some ("_law_top" : Str) := by rw [eN]; rfl
  have v0 : SlotOk X 0 "_law_top" := slot_of eS eN hfn rfl (.inl rfl)
  have n1 : X.N[1]? = some ("_law_bottom" : Str) := by rw [eN]; rfl
  have v1 : SlotOk X 1 "_law_bottom" := slot_of eS eN hfn rfl (.inl rfl)
  have n2 : X.N[2]? = some ("_law_one" : Str) := by rw [eN]; rfl
  have v2 : SlotOk X 2 "_law_one" := slot_of eS eN hfn rfl (.inl rfl)
  have n3 : X.N[3]? = some ("_law_other" : Str) := by rw [eN]; rfl
  have v3 : SlotOk X 3 "_law_other" := slot_of eS eN hfn rfl (.inl rfl)
  have gl_abs : Gl X "abs" := gl_of eS rfl
  have gl_int : Gl X "int" := gl_of eS rfl
  exact (js_cons (js_st hN v2 (je_bi b_abs gl_abs fr_abs RT.boot_abs (ja_cons (je_v v0) ja_nil)))
  (js_cons (js_st hN v3 (je_bi b_abs gl_abs fr_abs RT.boot_abs (ja_cons (je_v v1) ja_nil)))
  (js_cons (js_while hxe (jt_cmp o_gt (je_v v3) je_int (nomark _))
  (js_one (js_par (i := 2) (j := 3) hc hN n2 n3 (by decide) (by rw [eS]; rfl) (by rw [eS]; rfl) (ja_cons (je_v v3) (ja_cons (je_op o_mod (je_bty b_int gl_int fr_int RT.boot_int (ja_cons (je_v v2) ja_nil)) (je_bty b_int gl_int fr_int RT.boot_int (ja_cons (je_v v3) ja_nil))) ja_nil)) (swap_ok (by rw [eS]; rfl) (by rw [eS]; rfl) (by rw [eS]; rfl) (by decide) rfl rfl rfl (by decide +kernel) (by decide +kernel)))))
  (js_cons (js_if (jt_cmp o_lt (je_v v1) je_int (nomark _))
  (js_one (js_st hN v2 (je_neg (je_v v2))))
  js_nil)
  (js_one (js_ret (je_tup (ja_cons (je_op (o_fdiv am.py) (je_v v0) (je_v v2)) (ja_cons (je_op (o_fdiv am.py) (je_v v1) (je_v v2)) ja_nil)))))))))
theorem g__law_frac (KX : K.In base) (GX : base.Ns mainGlobals mg) (c : He.SaysD fa fn K) (hxb : xb K = true) (hns : BaseOk K mg base) (htr : P.given.tree = none) : FnG P w K mg base "_law_frac" 1 PG.sp__law_frac [] := by
  obtain ⟨fd, F⟩ := c.def_ 19 (d := dd__law_frac) rfl
  unfold PG.sp__law_frac
  exact mkG (N := (["_law_top", "_law_bottom", "_law_one", "_law_other"] : List Str)) false hns htr F (He.glo_ok KX GX (c.fact 19 (f := .glo "_law_frac") rfl)) sc__law_frac rfl rfl (fun _ _ _ _ _ _ us hl => match us, hl with | [_, _], _ => rfl) (fun X cdv A outer s H E hX hcd am => by subst hX; exact d__law_frac am sc__law_frac.nd rfl PassesOwn.never rfl rfl (fun _ => rfl) (He.free_ok KX GX (c.fact 30 (f := .free "abs") rfl)) (He.free_ok KX GX (c.fact 33 (f := .free "int") rfl)))

theorem sc__law_add : FnScope (["_law_one", "_law_other"] : List Str) (["_law_one", "_law_other"] : List Str) (defScope s__law_add) := ⟨rfl, rfl, rfl, by decide +kernel, rfl, by decide +kernel, by decide +kernel⟩
theorem d__law_add {X : Cx} (am : Amb 1 X) (hN : X.N.Nodup) (hc : X.calm = true) (hxe : PassesOwn (model X.prog X.w) X.A X.env X.xe) (eN : X.N = (["_law_one", "_law_other"] : List Str)) (eS : X.env.scope = defScope s__law_add) (hfn : ∀ x, X.fn x = true) (G__law_frac : FnG X.prog X.w X.K X.mg X.base "_law_frac" 1 PG.sp__law_frac []) : JSs X (defBody s__law_add) PG.w__law_add_2 := by
  have hr := am.rm
  have n0 : X.N[0]? = some ("_law_one" : Str) := by rw [eN]; rfl
  have v0 : SlotOk X 0 "_law_one" := slot_of eS eN hfn rfl (.inl rfl)
  have n1 : X.N[1]? = some ("_law_other" : Str) := by rw [eN]; rfl
  have v1 : SlotOk X 1 "_law_other" := slot_of eS eN hfn rfl (.inl rfl)
  have gl__law_frac : Gl X "_law_frac" := gl_of eS rfl
  exact (js_one (js_ret (je_cg G__law_frac hr gl__law_frac (ja_cons (je_op o_addA (je_op o_mul (je_ix (je_v v0) je_int) (je_ix (je_v v1) je_int)) (je_op o_mul (je_ix (je_v v1) je_int) (je_ix (je_v v0) je_int))) (ja_cons (je_op o_mul (je_ix (je_v v0) je_int) (je_ix (je_v v1) je_int)) ja_nil)))))
theorem g__law_add (KX : K.In base) (GX : base.Ns mainGlobals mg) (c : He.SaysD fa fn K) (hxb : xb K = true) (hns : BaseOk K mg base) (htr : P.given.tree = none) : FnG P w K mg base "_law_add" 2 PG.sp__law_add_2 [] := by
  obtain ⟨fd, F⟩ := c.def_ 20 (d := dd__law_add) rfl
  unfold PG.sp__law_add_2
  exact mkG (N := (["_law_one", "_law_other"] : List Str)) false hns htr F (He.glo_ok KX GX (c.fact 20 (f := .glo "_law_add") rfl)) sc__law_add rfl rfl (fun _ _ _ _ _ _ us hl => match us, hl with | [_, _], _ => rfl) (fun X cdv A outer s H E hX hcd am => by subst hX; exact d__law_add am sc__law_add.nd rfl PassesOwn.never rfl rfl (fun _ => rfl) (g__law_frac (P := P) (w := w) KX GX c hxb hns htr))

theorem sc__law_neg : FnScope (["_law_one"] : List Str) (["_law_one"] : List Str) (defScope s__law_neg) := ⟨rfl, rfl, rfl, by decide +kernel, rfl, by decide +kernel, by decide +kernel⟩
theorem d__law_neg {X : Cx} (am : Amb 0 X) (hN : X.N.Nodup) (hc : X.calm = true) (hxe : PassesOwn (model X.prog X.w) X.A X.env X.xe) (eN : X.N = (["_law_one"] : List Str)) (eS : X.env.scope = defScope s__law_neg) (hfn : ∀ x, X.fn x = true) : JSs X (defBody s__law_neg) PG.w__law_neg := by
  have hr := am.rm
  have n0 : X.N[0]? = some ("_law_one" : Str) := by rw [eN]; rfl
  have v0 : SlotOk X 0 "_law_one" := slot_of eS eN hfn rfl (.inl rfl)
  exact (js_one (js_ret (je_tup (ja_cons (je_neg (je_ix (je_v v0) je_int)) (ja_cons (je_ix (je_v v0) je_int) ja_nil)))))
theorem g__law_neg (KX : K.In base) (GX : base.Ns mainGlobals mg) (c : He.SaysD fa fn K) (hxb : xb K = true) (hns : BaseOk K mg base) (htr : P.given.tree = none) : FnG P w K mg base "_law_neg" 1 PG.sp__law_neg [] := by
  obtain ⟨fd, F⟩ := c.def_ 21 (d := dd__law_neg) rfl
  unfold PG.sp__law_neg
  exact mkG (N := (["_law_one"] : List Str)) false hns htr F (He.glo_ok KX GX (c.fact 21 (f := .glo "_law_neg") rfl)) sc__law_neg rfl rfl (fun _ _ _ _ _ _ us hl => match us, hl with | [_], _ => rfl) (fun X cdv A outer s H E hX hcd am => by subst hX; exact d__law_neg am sc__law_neg.nd rfl PassesOwn.never rfl rfl (fun _ => rfl))

theorem sc__law_fraction : FnScope (["_law_box_here"] : List Str) (["_law_box_here"] : List Str) (defScope s__law_fraction) := ⟨rfl, rfl, rfl, by decide +kernel, rfl, by decide +kernel, by decide +kernel⟩
theorem d__law_fraction {X : Cx} (am : Amb 1 X) (hN : X.N.Nodup) (hc : X.calm = true) (hxe : PassesOwn (model X.prog X.w) X.A X.env X.xe) (eN : X.N = (["_law_box_here"] : List Str)) (eS : X.env.scope = defScope s__law_fraction) (hfn : ∀ x, X.fn x = true) (G__law_draw : FnG X.prog X.w X.K X.mg X.base "_law_draw" 1 PG.sp__law_draw_2 []) (G__law_frac : FnG X.prog X.w X.K X.mg X.base "_law_frac" 1 PG.sp__law_frac []) : JSs X (defBody s__law_fraction) PG.w__law_fraction := by
  have hr := am.rm
  have n0 : X.N[0]? = some ("_law_box_here" : Str) := by rw [eN]; rfl
  have v0 : SlotOk X 0 "_law_box_here" := slot_of eS eN hfn rfl (.inl rfl)
  have gl__law_draw : Gl X "_law_draw" := gl_of eS rfl
  have gl__law_frac : Gl X "_law_frac" := gl_of eS rfl
  exact (js_one (js_ret (je_cg G__law_frac hr gl__law_frac (ja_cons (je_op o_sub (je_cg G__law_draw hr gl__law_draw (ja_cons (je_v v0) (ja_cons je_int ja_nil))) je_int) (ja_cons (je_ix (je_lst (ja_cons je_int (ja_cons je_int (ja_cons je_int (ja_cons je_int ja_nil))))) (je_cg G__law_draw hr gl__law_draw (ja_cons (je_v v0) (ja_cons je_int ja_nil)))) ja_nil)))))
theorem g__law_fraction (KX : K.In base) (GX : base.Ns mainGlobals mg) (c : He.SaysD fa fn K) (hxb : xb K = true) (hns : BaseOk K mg base) (htr : P.given.tree = none) : FnG P w K mg base "_law_fraction" 2 PG.sp__law_fraction [] := by
  obtain ⟨fd, F⟩ := c.def_ 22 (d := dd__law_fraction) rfl
  unfold PG.sp__law_fraction
  exact mkG (N := (["_law_box_here"] : List Str)) false hns htr F (He.glo_ok KX GX (c.fact 22 (f := .glo "_law_fraction") rfl)) sc__law_fraction rfl rfl (fun _ _ _ _ _ _ us hl => match us, hl with | [_], _ => rfl) (fun X cdv A outer s H E hX hcd am => by subst hX; exact d__law_fraction am sc__law_fraction.nd rfl PassesOwn.never rfl rfl (fun _ => rfl) (g__law_draw (P := P) (w := w) KX GX c hxb hns htr) (g__law_frac (P := P) (w := w) KX GX c hxb hns htr))

theorem sc__law_plane : FnScope (["_law_p", "_law_q", "_law_r", "_law_whole", "_law_part", "_law_parts", "_law_share", "_law_one"] : List Str) (["_law_p", "_law_q", "_law_r"] : List Str) (defScope s__law_plane) := ⟨rfl, rfl, rfl, by decide +kernel, rfl, by decide +kernel, by decide +kernel⟩
theorem d__law_plane {X : Cx} (am : Amb 0 X) (hN : X.N.Nodup) (hc : X.calm = true) (hxe : PassesOwn (model X.prog X.w) X.A X.env X.xe) (eN : X.N = (["_law_p", "_law_q", "_law_r", "_law_whole", "_law_part", "_law_parts", "_law_share", "_law_one"] : List Str)) (eS : X.env.scope = defScope s__law_plane) (hfn : ∀ x, X.fn x = true) (fr_abs : X.mg "abs" = none) (fr_int : X.mg "int" = none) : JSs X (defBody s__law_plane) PG.w__law_plane := by
  have hr := am.rm
  have n0 : X.N[0]? = some ("_law_p" : Str) := by rw [eN]; rfl
  have v0 : SlotOk X 0 "_law_p" := slot_of eS eN hfn rfl (.inl rfl)
  have n1 : X.N[1]? = some ("_law_q" : Str) := by rw [eN]; rfl
  have v1 : SlotOk X 1 "_law_q" := slot_of eS eN hfn rfl (.inl rfl)
  have n2 : X.N[2]? = some ("_law_r" : Str) := by rw [eN]; rfl
  have v2 : SlotOk X 2 "_law_r" := slot_of eS eN hfn rfl (.inl rfl)
  have n3 : X.N[3]? = some ("_law_whole" : Str) := by rw [eN]; rfl
  have v3 : SlotOk X 3 "_law_whole" := slot_of eS eN hfn rfl (.inr rfl)
  have n4 : X.N[4]? = some ("_law_part" : Str) := by rw [eN]; rfl
  have v4 : SlotOk X 4 "_law_part" := slot_of eS eN hfn rfl (.inl rfl)
  have n5 : X.N[5]? = some ("_law_parts" : Str) := by rw [eN]; rfl
  have v5 : SlotOk X 5 "_law_parts" := slot_of eS eN hfn rfl (.inl rfl)
  have n6 : X.N[6]? = some ("_law_share" : Str) := by rw [eN]; rfl
  have v6 : SlotOk X 6 "_law_share" := slot_of eS eN hfn rfl (.inl rfl)
  have n7 : X.N[7]? = some ("_law_one" : Str) := by rw [eN]; rfl
  have v7 : SlotOk X 7 "_law_one" := slot_of eS eN hfn rfl (.inl rfl)
  have gl_abs : Gl X "abs" := gl_of eS rfl
  have gl_int : Gl X "int" := gl_of eS rfl
  exact (js_cons (js_st hN v3 (je_op o_mul (je_op o_mul (je_ix (je_v v0) je_int) (je_ix (je_v v1) je_int)) (je_ix (je_v v2) je_int)))
  (js_cons (js_setLc false (i := 5) (own' := [("_law_part", 4)]) (by decide) hc hN n5 (by rw [eS]; rfl) (sw_true (by rw [eS]; rfl) (by rw [eS]; rfl) rfl (by decide +kernel)) (ji_any (je_lst (ja_cons (je_v v0) (ja_cons (je_v v1) (ja_cons (je_v v2) ja_nil))))) (blk_of eN eS (own := [("_law_part", 4)]) (by decide +kernel)) (fun s H C cl fp => (jg_of (pg_name (i := 4) hN n4 (by first | exact .inl rfl | exact .inr rfl)))) (fun s H C cl fp => jts_nil) (fun s H C cl fp => (je_op o_mul (je_ix (je_var 4 n4 (hv := .inl rfl)) je_int) (je_op (o_fdiv am.py) (je_var 3 n3 (hv := vis_free (by decide +kernel))) (je_ix (je_var 4 n4 (hv := .inl rfl)) je_int)))))
  (js_cons (js_st hN v6 je_int)
  (js_cons (js_for hxe hc (ji_any (je_v v5)) (jg_of (pg_v hN v4))
  (js_cons (js_st hN v7 (je_bi b_abs gl_abs fr_abs RT.boot_abs (ja_cons (je_v v4) ja_nil)))
  (js_one (js_while hxe (jt_cmp o_gt (je_v v7) je_int (nomark _))
  (js_one (js_par (i := 6) (j := 7) hc hN n6 n7 (by decide) (by rw [eS]; rfl) (by rw [eS]; rfl) (ja_cons (je_v v7) (ja_cons (je_op o_mod (je_bty b_int gl_int fr_int RT.boot_int (ja_cons (je_v v6) ja_nil)) (je_bty b_int gl_int fr_int RT.boot_int (ja_cons (je_v v7) ja_nil))) ja_nil)) (swap_ok (by rw [eS]; rfl) (by rw [eS]; rfl) (by rw [eS]; rfl) (by decide) rfl rfl rfl (by decide +kernel) (by decide +kernel))))))))
  (js_one (js_ret (je_tup (ja_cons (je_op (o_fdiv am.py) (je_ix (je_v v5) je_int) (je_v v6)) (ja_cons (je_op (o_fdiv am.py) (je_ix (je_v v5) je_int) (je_v v6)) (ja_cons (je_op (o_fdiv am.py) (je_ix (je_v v5) je_int) (je_v v6)) ja_nil))))))))))
theorem g__law_plane (KX : K.In base) (GX : base.Ns mainGlobals mg) (c : He.SaysD fa fn K) (hxb : xb K = true) (hns : BaseOk K mg base) (htr : P.given.tree = none) : FnG P w K mg base "_law_plane" 1 PG.sp__law_plane [] := by
  obtain ⟨fd, F⟩ := c.def_ 23 (d := dd__law_plane) rfl
  unfold PG.sp__law_plane
  exact mkG (N := (["_law_p", "_law_q", "_law_r", "_law_whole", "_law_part", "_law_parts", "_law_share", "_law_one"] : List Str)) false hns htr F (He.glo_ok KX GX (c.fact 23 (f := .glo "_law_plane") rfl)) sc__law_plane rfl rfl (fun _ _ _ _ _ _ us hl => match us, hl with | [_, _, _], _ => rfl) (fun X cdv A outer s H E hX hcd am => by subst hX; exact d__law_plane am sc__law_plane.nd rfl PassesOwn.never rfl rfl (fun _ => rfl) (He.free_ok KX GX (c.fact 30 (f := .free "abs") rfl)) (He.free_ok KX GX (c.fact 33 (f := .free "int") rfl)))

theorem sc__law_cross : FnScope (["_law_one", "_law_other"] : List Str) (["_law_one", "_law_other"] : List Str) (defScope s__law_cross) := ⟨rfl, rfl, rfl, by decide +kernel, rfl, by decide +kernel, by decide +kernel⟩
theorem d__law_cross {X : Cx} (am : Amb 0 X) (hN : X.N.Nodup) (hc : X.calm = true) (hxe : PassesOwn (model X.prog X.w) X.A X.env X.xe) (eN : X.N = (["_law_one", "_law_other"] : List Str)) (eS : X.env.scope = defScope s__law_cross) (hfn : ∀ x, X.fn x = true) : JSs X (defBody s__law_cross) PG.w__law_cross := by
  have hr := am.rm
  have n0 : X.N[0]? = some ("_law_one" : Str) := by rw [eN]; rfl
  have v0 : SlotOk X 0 "_law_one" := slot_of eS eN hfn rfl (.inl rfl)
  have n1 : X.N[1]? = some ("_law_other" : Str) := by rw [eN]; rfl
  have v1 : SlotOk X 1 "_law_other" := slot_of eS eN hfn rfl (.inl rfl)
  exact (js_one (js_ret (je_op o_sub (je_op o_mul (je_ix (je_v v0) je_int) (je_ix (je_v v1) je_int)) (je_op o_mul (je_ix (je_v v0) je_int) (je_ix (je_v v1) je_int)))))
theorem g__law_cross (KX : K.In base) (GX : base.Ns mainGlobals mg) (c : He.SaysD fa fn K) (hxb : xb K = true) (hns : BaseOk K mg base) (htr : P.given.tree = none) : FnG P w K mg base "_law_cross" 1 PG.sp__law_cross [] := by
  obtain ⟨fd, F⟩ := c.def_ 24 (d := dd__law_cross) rfl
  unfold PG.sp__law_cross
  exact mkG (N := (["_law_one", "_law_other"] : List Str)) false hns htr F (He.glo_ok KX GX (c.fact 24 (f := .glo "_law_cross") rfl)) sc__law_cross rfl rfl (fun _ _ _ _ _ _ us hl => match us, hl with | [_, _], _ => rfl) (fun X cdv A outer s H E hX hcd am => by subst hX; exact d__law_cross am sc__law_cross.nd rfl PassesOwn.never rfl rfl (fun _ => rfl))

theorem sc__law_before : FnScope (["_law_one", "_law_other", "_law_halves_here", "_law_turn", "_law_sizes", "_law_plane_here"] : List Str) (["_law_one", "_law_other"] : List Str) (defScope s__law_before) := ⟨rfl, rfl, rfl, by decide +kernel, rfl, by decide +kernel, by decide +kernel⟩
theorem d__law_before {X : Cx} (am : Amb 1 X) (hN : X.N.Nodup) (hc : X.calm = true) (hxe : PassesOwn (model X.prog X.w) X.A X.env X.xe) (eN : X.N = (["_law_one", "_law_other", "_law_halves_here", "_law_turn", "_law_sizes", "_law_plane_here"] : List Str)) (eS : X.env.scope = defScope s__law_before) (hfn : ∀ x, X.fn x = true) (fr_int : X.mg "int" = none) (fr_abs : X.mg "abs" = none) (G__law_cross : FnG X.prog X.w X.K X.mg X.base "_law_cross" 1 PG.sp__law_cross []) : JSs X (defBody s__law_before) PG.w__law_before := by
  have hr := am.rm
  have n0 : X.N[0]? = some ("_law_one" : Str) := by rw [eN]; rfl
  have v0 : SlotOk X 0 "_law_one" := slot_of eS eN hfn rfl (.inl rfl)
  have n1 : X.N[1]? = some ("_law_other" : Str) := by rw [eN]; rfl
  have v1 : SlotOk X 1 "_law_other" := slot_of eS eN hfn rfl (.inl rfl)
  have n2 : X.N[2]? = some ("_law_halves_here" : Str) := by rw [eN]; rfl
  have v2 : SlotOk X 2 "_law_halves_here" := slot_of eS eN hfn rfl (.inl rfl)
  have n3 : X.N[3]? = some ("_law_turn" : Str) := by rw [eN]; rfl
  have v3 : SlotOk X 3 "_law_turn" := slot_of eS eN hfn rfl (.inl rfl)
  have n4 : X.N[4]? = some ("_law_sizes" : Str) := by rw [eN]; rfl
  have v4 : SlotOk X 4 "_law_sizes" := slot_of eS eN hfn rfl (.inl rfl)
  have n5 : X.N[5]? = some ("_law_plane_here" : Str) := by rw [eN]; rfl
  have gl__law_cross : Gl X "_law_cross" := gl_of eS rfl
  exact (js_cons (js_setLc false (i := 2) (own' := [("_law_plane_here", 5)]) (by decide) hc hN n2 (by rw [eS]; rfl) (sw_true (by rw [eS]; rfl) (by rw [eS]; rfl) rfl (by decide +kernel)) (ji_any (je_lst (ja_cons (je_v v0) (ja_cons (je_v v1) ja_nil)))) (blk_of eN eS (own := [("_law_plane_here", 5)]) (by decide +kernel)) (fun s H C cl fp => (jg_of (pg_name (i := 5) hN n5 (by first | exact .inl rfl | exact .inr rfl)))) (fun s H C cl fp => jts_nil) (fun s H C cl fp => (je_bty b_int (by rfl) fr_int RT.boot_int (ja_cons (je_or (je_cmp o_lt (je_ix (je_var 5 n5 (hv := .inl rfl)) je_int) je_int (nomark _)) (je_one (je_and (je_cmp (o_eq hr) (je_ix (je_var 5 n5 (hv := .inl rfl)) je_int) je_int (nomark _)) (je_one (je_cmp o_lt (je_ix (je_var 5 n5 (hv := .inl rfl)) je_int) je_int (nomark _)))))) ja_nil))))
  (js_cons (js_if (jt_cmp (o_ne hr) (je_ix (je_v v2) je_int) (je_ix (je_v v2) je_int) (nomark _))
  (js_one (js_ret (je_cmp o_lt (je_ix (je_v v2) je_int) (je_ix (je_v v2) je_int) (nomark _))))
  js_nil)
  (js_cons (js_st hN v3 (je_cg G__law_cross hr gl__law_cross (ja_cons (je_v v0) (ja_cons (je_v v1) ja_nil))))
  (js_cons (js_if (jt_cmp (o_ne hr) (je_v v3) je_int (nomark _))
  (js_one (js_ret (je_cmp o_gt (je_v v3) je_int (nomark _))))
  js_nil)
  (js_cons (js_setLc false (i := 4) (own' := [("_law_plane_here", 5)]) (by decide) hc hN n4 (by rw [eS]; rfl) (sw_true (by rw [eS]; rfl) (by rw [eS]; rfl) rfl (by decide +kernel)) (ji_any (je_lst (ja_cons (je_v v0) (ja_cons (je_v v1) ja_nil)))) (blk_of eN eS (own := [("_law_plane_here", 5)]) (by decide +kernel)) (fun s H C cl fp => (jg_of (pg_name (i := 5) hN n5 (by first | exact .inl rfl | exact .inr rfl)))) (fun s H C cl fp => jts_nil) (fun s H C cl fp => (je_op o_addA (je_bi b_abs (by rfl) fr_abs RT.boot_abs (ja_cons (je_ix (je_var 5 n5 (hv := .inl rfl)) je_int) ja_nil)) (je_bi b_abs (by rfl) fr_abs RT.boot_abs (ja_cons (je_ix (je_var 5 n5 (hv := .inl rfl)) je_int) ja_nil)))))
  (js_one (js_ret (je_cmp o_lt (je_op o_mul (je_ix (je_v v0) je_int) (je_ix (je_v v4) je_int)) (je_op o_mul (je_ix (je_v v1) je_int) (je_ix (je_v v4) je_int)) (nomark _)))))))))
theorem g__law_before (KX : K.In base) (GX : base.Ns mainGlobals mg) (c : He.SaysD fa fn K) (hxb : xb K = true) (hns : BaseOk K mg base) (htr : P.given.tree = none) : FnG P w K mg base "_law_before" 2 PG.sp__law_before [] := by
  obtain ⟨fd, F⟩ := c.def_ 25 (d := dd__law_before) rfl
  unfold PG.sp__law_before
  exact mkG (N := (["_law_one", "_law_other", "_law_halves_here", "_law_turn", "_law_sizes", "_law_plane_here"] : List Str)) false hns htr F (He.glo_ok KX GX (c.fact 25 (f := .glo "_law_before") rfl)) sc__law_before rfl rfl (fun _ _ _ _ _ _ us hl => match us, hl with | [_, _], _ => rfl) (fun X cdv A outer s H E hX hcd am => by subst hX; exact d__law_before am sc__law_before.nd rfl PassesOwn.never rfl rfl (fun _ => rfl) (He.free_ok KX GX (c.fact 33 (f := .free "int") rfl)) (He.free_ok KX GX (c.fact 30 (f := .free "abs") rfl)) (g__law_cross (P := P) (w := w) KX GX c hxb hns htr))

theorem sc__law_sorted : FnScope (["_law_planes", "_law_rest", "_law_plane_here", "_law_found", "_law_first"] : List Str) (["_law_planes"] : List Str) (defScope s__law_sorted) := ⟨rfl, rfl, rfl, by decide +kernel, rfl, by decide +kernel, by decide +kernel⟩
theorem d__law_sorted {X : Cx} (am : Amb 2 X) (hN : X.N.Nodup) (hc : X.calm = true) (hxe : PassesOwn (model X.prog X.w) X.A X.env X.xe) (eN : X.N = (["_law_planes", "_law_rest", "_law_plane_here", "_law_found", "_law_first"] : List Str)) (eS : X.env.scope = defScope s__law_sorted) (hfn : ∀ x, X.fn x = true) (G__law_before : FnG X.prog X.w X.K X.mg X.base "_law_before" 2 PG.sp__law_before []) : JSs X (defBody s__law_sorted) PG.w__law_sorted := by
  have hr := am.rm
  have n0 : X.N[0]? = some ("_law_planes" : Str) := by rw [eN]; rfl
  have v0 : SlotOk X 0 "_law_planes" := slot_of eS eN hfn rfl (.inl rfl)
  have n1 : X.N[1]? = some ("_law_rest" : Str) := by rw [eN]; rfl
  have v1 : SlotOk X 1 "_law_rest" := slot_of eS eN hfn rfl (.inl rfl)
  have n2 : X.N[2]? = some ("_law_plane_here" : Str) := by rw [eN]; rfl
  have v2 : SlotOk X 2 "_law_plane_here" := slot_of eS eN hfn rfl (.inl rfl)
  have n3 : X.N[3]? = some ("_law_found" : Str) := by rw [eN]; rfl
  have v3 : SlotOk X 3 "_law_found" := slot_of eS eN hfn rfl (.inl rfl)
  have n4 : X.N[4]? = some ("_law_first" : Str) := by rw [eN]; rfl
  have v4 : SlotOk X 4 "_law_first" := slot_of eS eN hfn rfl (.inl rfl)
  have gl__law_before : Gl X "_law_before" := gl_of eS rfl
  exact (js_cons (js_st hN v1 (je_lstO ja_nil))
  (js_cons (js_for hxe hc (ji_any (je_v v0)) (jg_of (pg_v hN v2))
  (js_one (js_if (jt_cmp (o_notIn hr) (je_v v2) (je_v v1) rfl)
  (js_one (js_do (je_meth PySem.F.slot_list_append PySem.F.type_list_append m_append (je_v v1) (ja_cons (je_v v2) ja_nil))))
  js_nil)))
  (js_cons (js_st hN v3 (je_lstO ja_nil))
  (js_cons (js_while hxe (jt_tru (je_v v1))
  (js_cons (js_st hN v4 (je_ix (je_v v1) je_int))
  (js_cons (js_for hxe hc (ji_any (je_v v1)) (jg_of (pg_v hN v2))
  (js_one (js_if (jt_tru (je_cg G__law_before hr gl__law_before (ja_cons (je_v v2) (ja_cons (je_v v4) ja_nil))))
  (js_one (js_st hN v4 (je_v v2)))
  js_nil)))
  (js_cons (js_do (je_meth2 PySem.F.slot_list_remove PySem.F.type_list_remove (m_remove hr) (je_v v1) (ja_cons (je_v v4) ja_nil)))
  (js_one (js_do (je_meth PySem.F.slot_list_append PySem.F.type_list_append m_append (je_v v3) (ja_cons (je_v v4) ja_nil))))))))
  (js_one (js_ret (je_v v3)))))))
theorem g__law_sorted (KX : K.In base) (GX : base.Ns mainGlobals mg) (c : He.SaysD fa fn K) (hxb : xb K = true) (hns : BaseOk K mg base) (htr : P.given.tree = none) : FnG P w K mg base "_law_sorted" 3 PG.sp__law_sorted [] := by
  obtain ⟨fd, F⟩ := c.def_ 26 (d := dd__law_sorted) rfl
  unfold PG.sp__law_sorted
  exact mkG (N := (["_law_planes", "_law_rest", "_law_plane_here", "_law_found", "_law_first"] : List Str)) false hns htr F (He.glo_ok KX GX (c.fact 26 (f := .glo "_law_sorted") rfl)) sc__law_sorted rfl rfl (fun _ _ _ _ _ _ us hl => match us, hl with | [_], _ => rfl) (fun X cdv A outer s H E hX hcd am => by subst hX; exact d__law_sorted am sc__law_sorted.nd rfl PassesOwn.never rfl rfl (fun _ => rfl) (g__law_before (P := P) (w := w) KX GX c hxb hns htr))

theorem sc__law_opposite : FnScope (["_law_plane_here"] : List Str) (["_law_plane_here"] : List Str) (defScope s__law_opposite) := ⟨rfl, rfl, rfl, by decide +kernel, rfl, by decide +kernel, by decide +kernel⟩
theorem d__law_opposite {X : Cx} (am : Amb 0 X) (hN : X.N.Nodup) (hc : X.calm = true) (hxe : PassesOwn (model X.prog X.w) X.A X.env X.xe) (eN : X.N = (["_law_plane_here"] : List Str)) (eS : X.env.scope = defScope s__law_opposite) (hfn : ∀ x, X.fn x = true) : JSs X (defBody s__law_opposite) PG.w__law_opposite := by
  have hr := am.rm
  have n0 : X.N[0]? = some ("_law_plane_here" : Str) := by rw [eN]; rfl
  have v0 : SlotOk X 0 "_law_plane_here" := slot_of eS eN hfn rfl (.inl rfl)
  exact (js_one (js_ret (je_tup (ja_cons (je_neg (je_ix (je_v v0) je_int)) (ja_cons (je_neg (je_ix (je_v v0) je_int)) (ja_cons (je_neg (je_ix (je_v v0) je_int)) ja_nil))))))
theorem g__law_opposite (KX : K.In base) (GX : base.Ns mainGlobals mg) (c : He.SaysD fa fn K) (hxb : xb K = true) (hns : BaseOk K mg base) (htr : P.given.tree = none) : FnG P w K mg base "_law_opposite" 1 PG.sp__law_opposite [] := by
  obtain ⟨fd, F⟩ := c.def_ 27 (d := dd__law_opposite) rfl
  unfold PG.sp__law_opposite
  exact mkG (N := (["_law_plane_here"] : List Str)) false hns htr F (He.glo_ok KX GX (c.fact 27 (f := .glo "_law_opposite") rfl)) sc__law_opposite rfl rfl (fun _ _ _ _ _ _ us hl => match us, hl with | [_], _ => rfl) (fun X cdv A outer s H E hX hcd am => by subst hX; exact d__law_opposite am sc__law_opposite.nd rfl PassesOwn.never rfl rfl (fun _ => rfl))

theorem sc__law_halves : FnScope (["_law_box_here", "_law_most", "_law_found", "_law_turn", "_law_p", "_law_q"] : List Str) (["_law_box_here", "_law_most"] : List Str) (defScope s__law_halves) := ⟨rfl, rfl, rfl, by decide +kernel, rfl, by decide +kernel, by decide +kernel⟩
theorem d__law_halves {X : Cx} (am : Amb 2 X) (hN : X.N.Nodup) (hc : X.calm = true) (hxe : PassesOwn (model X.prog X.w) X.A X.env X.xe) (eN : X.N = (["_law_box_here", "_law_most", "_law_found", "_law_turn", "_law_p", "_law_q"] : List Str)) (eS : X.env.scope = defScope s__law_halves) (hfn : ∀ x, X.fn x = true) (fr_range : X.mg "range" = none) (G__law_draw : FnG X.prog X.w X.K X.mg X.base "_law_draw" 1 PG.sp__law_draw_2 []) (G__law_fraction : FnG X.prog X.w X.K X.mg X.base "_law_fraction" 2 PG.sp__law_fraction []) (G__law_plane : FnG X.prog X.w X.K X.mg X.base "_law_plane" 1 PG.sp__law_plane []) (G__law_neg : FnG X.prog X.w X.K X.mg X.base "_law_neg" 1 PG.sp__law_neg []) (G__law_add : FnG X.prog X.w X.K X.mg X.base "_law_add" 2 PG.sp__law_add_2 []) (G__law_opposite : FnG X.prog X.w X.K X.mg X.base "_law_opposite" 1 PG.sp__law_opposite []) : JSs X (defBody s__law_halves) PG.w__law_halves := by
  have hr := am.rm
  have n0 : X.N[0]? = some ("_law_box_here" : Str) := by rw [eN]; rfl
  have v0 : SlotOk X 0 "_law_box_here" := slot_of eS eN hfn rfl (.inl rfl)
  have n1 : X.N[1]? = some ("_law_most" : Str) := by rw [eN]; rfl
  have v1 : SlotOk X 1 "_law_most" := slot_of eS eN hfn rfl (.inl rfl)
  have n2 : X.N[2]? = some ("_law_found" : Str) := by rw [eN]; rfl
  have v2 : SlotOk X 2 "_law_found" := slot_of eS eN hfn rfl (.inl rfl)
  have n3 : X.N[3]? = some ("_law_turn" : Str) := by rw [eN]; rfl
  have v3 : SlotOk X 3 "_law_turn" := slot_of eS eN hfn rfl (.inl rfl)
  have n4 : X.N[4]? = some ("_law_p" : Str) := by rw [eN]; rfl
  have v4 : SlotOk X 4 "_law_p" := slot_of eS eN hfn rfl (.inl rfl)
  have n5 : X.N[5]? = some ("_law_q" : Str) := by rw [eN]; rfl
  have v5 : SlotOk X 5 "_law_q" := slot_of eS eN hfn rfl (.inl rfl)
  have gl_range : Gl X "range" := gl_of eS rfl
  have gl__law_draw : Gl X "_law_draw" := gl_of eS rfl
  have gl__law_fraction : Gl X "_law_fraction" := gl_of eS rfl
  have gl__law_plane : Gl X "_law_plane" := gl_of eS rfl
  have gl__law_neg : Gl X "_law_neg" := gl_of eS rfl
  have gl__law_add : Gl X "_law_add" := gl_of eS rfl
  have gl__law_opposite : Gl X "_law_opposite" := gl_of eS rfl
  exact (js_cons (js_st hN v2 (je_lstO ja_nil))
  (js_cons (js_for hxe hc (ji_range1 gl_range fr_range (ja_cons (je_cg G__law_draw hr gl__law_draw (ja_cons (je_v v0) (ja_cons (je_op o_addA (je_v v1) je_int) ja_nil))) ja_nil)) (jg_of (pg_v hN v3))
  (js_cons (js_st hN v4 (je_op o_sub (je_cg G__law_draw hr gl__law_draw (ja_cons (je_v v0) (ja_cons je_int ja_nil))) je_int))
  (js_cons (js_st hN v5 (je_op o_sub (je_cg G__law_draw hr gl__law_draw (ja_cons (je_v v0) (ja_cons je_int ja_nil))) je_int))
  (js_cons (js_if (jw_pt (jw_and (jt_cmp (o_eq hr) (je_v v4) je_int (nomark _)) (jw_and1 (jt_cmp (o_eq hr) (je_v v5) je_int (nomark _)))))
  (js_one (js_st hN v5 je_int))
  js_nil)
  (js_cons (js_do (je_meth PySem.F.slot_list_append PySem.F.type_list_append m_append (je_v v2) (ja_cons (je_cg G__law_plane hr gl__law_plane (ja_cons (je_tup (ja_cons (je_v v4) (ja_cons je_int ja_nil))) (ja_cons (je_tup (ja_cons (je_v v5) (ja_cons je_int ja_nil))) (ja_cons (je_cg G__law_fraction hr gl__law_fraction (ja_cons (je_v v0) ja_nil)) ja_nil)))) ja_nil)))
  (js_cons (js_if (jt_cmp (o_eq hr) (je_cg G__law_draw hr gl__law_draw (ja_cons (je_v v0) (ja_cons je_int ja_nil))) je_int (nomark _))
  (js_one (js_do (je_meth PySem.F.slot_list_append PySem.F.type_list_append m_append (je_v v2) (ja_cons (je_cg G__law_plane hr gl__law_plane (ja_cons (je_tup (ja_cons (je_neg (je_v v4)) (ja_cons je_int ja_nil))) (ja_cons (je_tup (ja_cons (je_neg (je_v v5)) (ja_cons je_int ja_nil))) (ja_cons (je_cg G__law_add hr gl__law_add (ja_cons (je_cg G__law_neg hr gl__law_neg (ja_cons (je_cg G__law_fraction hr gl__law_fraction (ja_cons (je_v v0) ja_nil)) ja_nil)) (ja_cons (je_tup (ja_cons (je_cg G__law_draw hr gl__law_draw (ja_cons (je_v v0) (ja_cons je_int ja_nil))) (ja_cons je_int ja_nil))) ja_nil))) ja_nil)))) ja_nil))))
  js_nil)
  (js_one (js_if (jt_cmp (o_eq hr) (je_cg G__law_draw hr gl__law_draw (ja_cons (je_v v0) (ja_cons je_int ja_nil))) je_int (nomark _))
  (js_one (js_do (je_meth PySem.F.slot_list_append PySem.F.type_list_append m_append (je_v v2) (ja_cons (je_cg G__law_opposite hr gl__law_opposite (ja_cons (je_ix (je_v v2) je_int) ja_nil)) ja_nil))))
  js_nil))))))))
  (js_one (js_ret (je_v v2)))))
theorem g__law_halves (KX : K.In base) (GX : base.Ns mainGlobals mg) (c : He.SaysD fa fn K) (hxb : xb K = true) (hns : BaseOk K mg base) (htr : P.given.tree = none) : FnG P w K mg base "_law_halves" 3 PG.sp__law_halves [] := by
  obtain ⟨fd, F⟩ := c.def_ 28 (d := dd__law_halves) rfl
  unfold PG.sp__law_halves
  exact mkG (N := (["_law_box_here", "_law_most", "_law_found", "_law_turn", "_law_p", "_law_q"] : List Str)) true hns htr F (He.glo_ok KX GX (c.fact 28 (f := .glo "_law_halves") rfl)) sc__law_halves rfl rfl (fun _ _ _ _ _ _ us hl => match us, hl with | [_, _], _ => rfl) (fun X cdv A outer s H E hX hcd am => by subst hX; exact d__law_halves am sc__law_halves.nd rfl PassesOwn.never rfl rfl (fun _ => rfl) (He.free_ok KX GX (c.fact 32 (f := .free "range") rfl)) (g__law_draw (P := P) (w := w) KX GX c hxb hns htr) (g__law_fraction (P := P) (w := w) KX GX c hxb hns htr) (g__law_plane (P := P) (w := w) KX GX c hxb hns htr) (g__law_neg (P := P) (w := w) KX GX c hxb hns htr) (g__law_add (P := P) (w := w) KX GX c hxb hns htr) (g__law_opposite (P := P) (w := w) KX GX c hxb hns htr))

theorem sc_law : FnScope (["_law_script", "_law_box_here", "_law_planes", "_law_one", "_law_other"] : List Str) (["_law_script"] : List Str) (defScope s_law) := ⟨rfl, rfl, rfl, by decide +kernel, rfl, by decide +kernel, by decide +kernel⟩
theorem d_law {X : Cx} (am : Amb 7 X) (hN : X.N.Nodup) (hc : X.calm = true) (hxe : PassesOwn (model X.prog X.w) X.A X.env X.xe) (eN : X.N = (["_law_script", "_law_box_here", "_law_planes", "_law_one", "_law_other"] : List Str)) (eS : X.env.scope = defScope s_law) (hfn : ∀ x, X.fn x = true) (G__law_box : FnG X.prog X.w X.K X.mg X.base "_law_box" 2 PG.sp__law_box []) (G__law_halves : FnG X.prog X.w X.K X.mg X.base "_law_halves" 3 PG.sp__law_halves []) (G__law_draw : FnG X.prog X.w X.K X.mg X.base "_law_draw" 1 PG.sp__law_draw_2 []) (G__law_fraction : FnG X.prog X.w X.K X.mg X.base "_law_fraction" 2 PG.sp__law_fraction []) (G__law_plane : FnG X.prog X.w X.K X.mg X.base "_law_plane" 1 PG.sp__law_plane []) (G__law_sorted : FnG X.prog X.w X.K X.mg X.base "_law_sorted" 3 PG.sp__law_sorted []) (G_in_order : FnG X.prog X.w X.K X.mg X.base "in_order" 7 PG.sp_in_order []) (G__law_same : FnG X.prog X.w X.K X.mg X.base "_law_same" 1 PG.sp__law_same []) (G_opposite : FnG X.prog X.w X.K X.mg X.base "opposite" 1 PG.sp_opposite []) (G__law_opposite : FnG X.prog X.w X.K X.mg X.base "_law_opposite" 1 PG.sp__law_opposite []) (G_comes_before : FnG X.prog X.w X.K X.mg X.base "comes_before" 6 PG.sp_comes_before []) (G__law_before : FnG X.prog X.w X.K X.mg X.base "_law_before" 2 PG.sp__law_before []) (G_cross : FnG X.prog X.w X.K X.mg X.base "cross" 1 PG.sp_cross []) (G__law_cross : FnG X.prog X.w X.K X.mg X.base "_law_cross" 1 PG.sp__law_cross []) (G_dot : FnG X.prog X.w X.K X.mg X.base "dot" 1 PG.sp_dot []) : JSs X (defBody s_law) PG.w_law_8 := by
  have hr := am.rm
  have n0 : X.N[0]? = some ("_law_script" : Str) := by rw [eN]; rfl
  have v0 : SlotOk X 0 "_law_script" := slot_of eS eN hfn rfl (.inl rfl)
  have n1 : X.N[1]? = some ("_law_box_here" : Str) := by rw [eN]; rfl
  have v1 : SlotOk X 1 "_law_box_here" := slot_of eS eN hfn rfl (.inl rfl)
  have n2 : X.N[2]? = some ("_law_planes" : Str) := by rw [eN]; rfl
  have v2 : SlotOk X 2 "_law_planes" := slot_of eS eN hfn rfl (.inl rfl)
  have n3 : X.N[3]? = some ("_law_one" : Str) := by rw [eN]; rfl
  have v3 : SlotOk X 3 "_law_one" := slot_of eS eN hfn rfl (.inl rfl)
  have n4 : X.N[4]? = some ("_law_other" : Str) := by rw [eN]; rfl
  have v4 : SlotOk X 4 "_law_other" := slot_of eS eN hfn rfl (.inl rfl)
  have gl__law_box : Gl X "_law_box" := gl_of eS rfl
  have gl__law_halves : Gl X "_law_halves" := gl_of eS rfl
  have gl__law_draw : Gl X "_law_draw" := gl_of eS rfl
  have gl__law_fraction : Gl X "_law_fraction" := gl_of eS rfl
  have gl__law_plane : Gl X "_law_plane" := gl_of eS rfl
  have gl__law_sorted : Gl X "_law_sorted" := gl_of eS rfl
  have gl_in_order : Gl X "in_order" := gl_of eS rfl
  have gl__law_same : Gl X "_law_same" := gl_of eS rfl
  have gl_opposite : Gl X "opposite" := gl_of eS rfl
  have gl__law_opposite : Gl X "_law_opposite" := gl_of eS rfl
  have gl_comes_before : Gl X "comes_before" := gl_of eS rfl
  have gl__law_before : Gl X "_law_before" := gl_of eS rfl
  have gl_cross : Gl X "cross" := gl_of eS rfl
  have gl__law_cross : Gl X "_law_cross" := gl_of eS rfl
  have gl_dot : Gl X "dot" := gl_of eS rfl
  exact (js_cons (js_st hN v1 (je_cg G__law_box hr gl__law_box (ja_cons (je_v v0) (ja_cons je_int (ja_cons je_int ja_nil)))))
  (js_cons (js_st hN v2 (je_cg G__law_halves hr gl__law_halves (ja_cons (je_v v1) (ja_cons je_int ja_nil))))
  (js_cons (js_st hN v2 (je_cat true (je_v v2) (je_sl false (je_v v2) jo_none (jo_some (je_cg G__law_draw hr gl__law_draw (ja_cons (je_v v1) (ja_cons je_int ja_nil)))))))
  (js_cons (js_if (jt_tru (je_v v2))
  (js_one (js_do (je_meth PySem.F.slot_list_append PySem.F.type_list_append m_append (je_v v2) (ja_cons (je_cg G__law_plane hr gl__law_plane (ja_cons (je_tup (ja_cons (je_op o_mul je_int (je_ix (je_ix (je_v v2) je_int) je_int)) (ja_cons je_int ja_nil))) (ja_cons (je_tup (ja_cons (je_op o_mul je_int (je_ix (je_ix (je_v v2) je_int) je_int)) (ja_cons je_int ja_nil))) (ja_cons (je_cg G__law_fraction hr gl__law_fraction (ja_cons (je_v v1) ja_nil)) ja_nil)))) ja_nil))))
  js_nil)
  (js_cons (js_if (jt_not (jt_tru (je_cg G__law_same hr gl__law_same (ja_cons (je_cg G_in_order hr gl_in_order (ja_cons (je_f v2) ja_nil)) (ja_cons (je_cg G__law_sorted hr gl__law_sorted (ja_cons (je_f v2) ja_nil)) ja_nil)))))
  (js_one (js_ret je_bl))
  js_nil)
  (js_cons (js_for hxe hc (ji_any (je_sl false (je_v v2) jo_none (jo_some je_int))) (jg_of (pg_v hN v3))
  (js_cons (js_if (jt_cmp (o_ne hr) (je_cg G_opposite hr gl_opposite (ja_cons (je_v v3) ja_nil)) (je_cg G__law_opposite hr gl__law_opposite (ja_cons (je_v v3) ja_nil)) (nomark _))
  (js_one (js_ret je_bl))
  js_nil)
  (js_one (js_for hxe hc (ji_any (je_sl false (je_v v2) jo_none (jo_some je_int))) (jg_of (pg_v hN v4))
  (js_cons (js_if (jw_pt (jw_and (jt_cmp (o_ne hr) (je_v v3) (je_v v4) (nomark _)) (jw_and1 (jt_cmp (o_ne hr) (je_cg G_comes_before hr gl_comes_before (ja_cons (je_v v3) (ja_cons (je_v v4) ja_nil))) (je_cg G__law_before hr gl__law_before (ja_cons (je_v v3) (ja_cons (je_v v4) ja_nil))) (nomark _)))))
  (js_one (js_ret je_bl))
  js_nil)
  (js_one (js_if (jw_pt (jw_or (jt_cmp (o_ne hr) (je_cg G_cross hr gl_cross (ja_cons (je_v v3) (ja_cons (je_v v4) ja_nil))) (je_cg G__law_cross hr gl__law_cross (ja_cons (je_v v3) (ja_cons (je_v v4) ja_nil))) (nomark _)) (jw_or1 (jt_cmp (o_ne hr) (je_cg G_dot hr gl_dot (ja_cons (je_v v3) (ja_cons (je_v v4) ja_nil))) (je_op o_addA (je_op o_mul (je_ix (je_v v3) je_int) (je_ix (je_v v4) je_int)) (je_op o_mul (je_ix (je_v v3) je_int) (je_ix (je_v v4) je_int))) (nomark _)))))
  (js_one (js_ret je_bl))
  js_nil)))))))
  (js_one (js_ret je_bl))))))))
theorem f_law (KX : K.In base) (GX : base.Ns mainGlobals mg) (c : He.SaysD fa fn K) (hxb : xb K = true) (hns : BaseOk K mg base) (htr : P.given.tree = none) {fd : FuncData} (F : FunD K dd_law.name dd_law.qual dd_law.params dd_law.body dd_law.scope (dd_law.dvs K) (dd_law.kws K) (He.fAd K dd_law.at_) fd) : Fnn P w K mg base CX0 8 (He.fAd K dd_law.at_) fd (["_law_script"] : List Str) (liftSp K PG.sp_law_8) := by
  unfold PG.sp_law_8
  exact mkF (N := (["_law_script", "_law_box_here", "_law_planes", "_law_one", "_law_other"] : List Str)) false hns htr F sc_law rfl rfl (fun X cdv A outer s H E hX hcd am => by subst hX; exact d_law am sc_law.nd rfl PassesOwn.never rfl rfl (fun _ => rfl) (g__law_box (P := P) (w := w) KX GX c hxb hns htr) (g__law_halves (P := P) (w := w) KX GX c hxb hns htr) (g__law_draw (P := P) (w := w) KX GX c hxb hns htr) (g__law_fraction (P := P) (w := w) KX GX c hxb hns htr) (g__law_plane (P := P) (w := w) KX GX c hxb hns htr) (g__law_sorted (P := P) (w := w) KX GX c hxb hns htr) (g_in_order (P := P) (w := w) KX GX c hxb hns htr) (g__law_same (P := P) (w := w) KX GX c hxb hns htr) (g_opposite (P := P) (w := w) KX GX c hxb hns htr) (g__law_opposite (P := P) (w := w) KX GX c hxb hns htr) (g_comes_before (P := P) (w := w) KX GX c hxb hns htr) (g__law_before (P := P) (w := w) KX GX c hxb hns htr) (g_cross (P := P) (w := w) KX GX c hxb hns htr) (g__law_cross (P := P) (w := w) KX GX c hxb hns htr) (g_dot (P := P) (w := w) KX GX c hxb hns htr))

end

abbrev R : PySem.W.OpenRow := PySem.W.OpenLaw.row PySem.Challenge.rw_raytrain_k40_half_planes_in_order
abbrev hk : PySem.W.Hook := hookR 4 fa fn xb
def ob (s : PySem.W.SharedT) : AlR := obsR 4 fa fn xb (HandSHeadRun.getT s)
theorem ob_eq (s : PySem.W.SharedT) : ob s = hk.obs s.abs := obsR_eq (HandSHeadRun.getT_eq s)
def loose : List Str := (["__name__", "common_divisor", "fraction", "add", "negative", "subtract", "sign", "compare", "cross", "dot", "opposite", "reach", "in_first_half", "comes_before", "in_order", "_law_cell", "_law_row", "_law_box", "_law_draw", "_law_same", "_law_frac", "_law_add", "_law_neg", "_law_fraction", "_law_plane", "_law_cross", "_law_before", "_law_sorted", "_law_opposite", "_law_halves"] : List Str)
theorem run (w : World) : HandSHeadRun.RunEq R (PySem.W.view R.prog [32]) hk ob 3000 loose w := by
  intro os
  kernel_rfl
theorem facts {w : World} {K : PySem.W.Frag} {h : Heap} {mg : Str → Option Value} {f : Addr} (X : K.In h) (G : h.Ns mainGlobals mg) (hfa : mg ("law" : Str) = some (.ref f)) (c : He.SaysD fa fn K) (hxb : xb K = true) :
    ∃ fd : FuncData, (∀ (s : Shared) (v : Value), BindsTo s fd ⟨[v], []⟩ [("_law_script", v)]) ∧ ∀ base : Heap, K.In base → base.Ns mainGlobals mg → BaseOk K mg base → Fnn PySem.Challenge.rw_raytrain_k40_half_planes_in_order.prog w K mg base CX0 8 f fd ["_law_script"] (liftSp K PG.sp_law_8) := by
  obtain ⟨fd, F⟩ := c.def_ 29 (d := dd_law) rfl
  have e := hfa.symm.trans (He.glo_ok X G (c.fact 29 (f := .glo "law") rfl))
  cases e
  have b := FunD.bindsA (ps := ["_law_script"]) F fun _ _ _ _ _ _ us hl => match us, hl with | [_], _ => rfl
  exact ⟨fd, fun s v => b s [v] rfl, fun base KX GX hns => f_law KX GX c hxb hns rfl F⟩

end K40

open PySem PySem.W PySem.Calls PyProof.Rows
set_option maxHeartbeats 0 in
theorem K40.holds_of (law : RT.LawD 63 PG.sp_law_8) : PySem.Challenge.rw_raytrain_k40_half_planes_in_order.Holds := by
  w_on; o_law
  refine HandSHeadRun.head_any (r := OpenLaw.row PySem.Challenge.rw_raytrain_k40_half_planes_in_order) (q := view (OpenLaw.row PySem.Challenge.rw_raytrain_k40_half_planes_in_order).prog [32]) (H := K40.hk) (ob := K40.ob) (M := 3000) (loose := K40.loose) (d := HandSHeadRun.topDef (OpenLaw.row PySem.Challenge.rw_raytrain_k40_half_planes_in_order).prog 32) (kwd := []) K40.ob_eq
    (by kernel_rfl) (fun s => by kernel_rfl) K40.run (by kernel_rfl) (by kernel_rfl) (by kernel_rfl) (by rfl) (by first | assumption | decide +kernel) (by decide +kernel) ⟨rfl, rfl, rfl, rfl, rfl, by decide +kernel⟩ ?hw ?hc
  case hw => w_witness2
  case hc =>
    refine RT.walk_R (l := PySem.Challenge.rw_raytrain_k40_half_planes_in_order) (n := 63) (k := 8) (x := "_law_script") (sp := PG.sp_law_8) rfl (by decide) (by kernel_rfl) ⟨⟨rfl, by decide, by decide⟩, rfl, by decide⟩ (by kernel_rfl) law ?F
    intro w mg fa h Y G hmg0
    obtain ⟨K, KX, nl, tk, xbK, c⟩ := Y
    have hmg : mg ("law" : PySem.Str) = some (.ref fa) := by
      have e : (HandSHeadRun.topDef (OpenLaw.row PySem.Challenge.rw_raytrain_k40_half_planes_in_order).prog 32).name = ("law" : PySem.Str) := by kernel_rfl
      rw [← e]
      exact hmg0
    obtain ⟨fd, hb, hF⟩ := K40.facts (w := w) KX G hmg c xbK
    exact ⟨K, fd, KX, nl, tk, hb, hF⟩

theorem PySem.Challenge.cw_raytrain_k40_half_planes_in_order_holds : PySem.Challenge.rw_raytrain_k40_half_planes_in_order.Holds :=
  K40.holds_of PG.law_k40
