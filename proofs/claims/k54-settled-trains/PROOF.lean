import PyProof.Rows.All
import Wide.All
import OpenK.AllK
import Wide.FinOn
import HandS.AnyAll
import HandS.GenOver
import PyProof.GenCompD
import HandS.Zip
import KE.GoesZip
import KE.GoesMore
import KE.GoesEnum
import HandS.ForMost
import HandS.ForExc
import HandS.Wide
import HandS.HeadHook1
import HandS.IsInst
import HandS.Deep
import HandS.TupAny
import HandS.TupLe
import HandS.More
import HandS.EndBits
import HandS.Defaults
import HandS.Head0
import HandS.Head1
import HandS.Head2
import HandS.HeadEnd
import HandS.HeadHook2
import HandS.HeadHook4
import KE.KNestM
import PyProof.ReprRoads
import HandS.Style
import KE.DataFind
import HandS.TryOnly
import HandS.Rev
import HandS.Conv
import PyProof.ListRange
import HandS.ExcIs
import HandS.ExcOwn
import HandS.WordsExc
import HandS.List
import HandS.Dict
import PySem.Challenge.RW_raytrain_k54_settled_trains
set_option Elab.async false
set_option linter.all false

set_option maxRecDepth 100000
set_option maxHeartbeats 4000000

namespace RG
open PySem PySem.Spec PyProof.Rows L2 GxR
abbrev GCx (X : Cx) (s : Shared) (H : Hp) (cenv : Env) (fp : List Addr) (A : Around) : Cx :=
  { X with A := A, s_0 := s, H_0 := H, env := cenv, outer := X.stack, stack := cenv :: X.stack, ex := fp, fn := fun _ => false, pn := [], xe := fun _ _ => False }
section
variable {X : Cx} {pins : List (Addr × Obj)} {σ : L2.St} {H : Hp} {s : Shared}
theorem gens_irrel {s' : Shared} (I : Inv X pins σ H s) (hh : s'.heap = s.heap) (ho : s'.os = s.os) (hb : AllBare s'.gens) : Inv X pins σ H s' := by
  obtain ⟨h', g', d', t', o'⟩ := s'
  obtain ⟨h, g, d, t, o⟩ := s
  cases hh
  cases ho
  exact ⟨I.ok, I.os, hb, I.base, I.loc, I.cell, I.free, I.freeC, I.pin, I.hok, I.len⟩
theorem bare_set {s : Shared} {g : Nat} {x : GenState} (h : AllBare s.gens) (hx : x.bare = true) : AllBare (s.setGen g x).gens := fun y hy => by
  have hy' : y ∈ s.gens.setIfInBounds g x := hy
  rcases Array.mem_or_eq_of_mem_setIfInBounds hy' with z | z
  · exact h y z
  · rw [z]
    exact hx
theorem gen_start {scope : Scope} {own : List (Str × Nat)} {fp : List Addr} {C ag : Addr} {og : Obj} {code : Value} {m0 : Str → Option Value} {A' : Around} {s5 : Shared} (I : Inv X pins σ H s) (ok : BlkOk X.N X.env.scope scope own) (hN : X.N.Nodup)
    (hcell : ∀ y ∈ scope.names, y.2 ≠ .cell) (hfp : ∀ b ∈ fp, FpOk X pins H b ∧ b < s.heap.objs.size) (hA : A'.handled = none) (hAf : A'.frames = some (genEnv scope (cloFrom X.env.cells scope.names []) C code builtinsNs X.env :: X.stack)) (hC : C = s.heap.objs.size)
    (h5o : s5.os = s.os) (h5b : AllBare s5.gens) (h5n : s5.heap.Ns C m0) (h5k : ∀ b o, s.heap.get? b = some o → s5.heap.get? b = some o) (h5g : s5.heap.get? ag = some og) (hag : C < ag) (hog : ∀ v, og.data ≠ .cell v) :
    Inv (GCx X s H (genEnv scope (cloFrom X.env.cells scope.names []) C code builtinsNs X.env) fp A') [(ag, og)] (wipe σ (own.map (·.2))) H s5 := by
  have hfree : ∀ y ∈ scope.names, y.2 = .free → ∃ c, X.env.cells.lookup y.1 = some c := fun y hy e => by
    rcases ok.free y hy e with k | k
    · exact I.ok.has _ (.inl k)
    · exact I.ok.has _ (.inr k)
  subst hC
  generalize hcenv : genEnv scope (cloFrom X.env.cells scope.names []) s.heap.objs.size code builtinsNs X.env = cenv at *
  have hL : cenv.locals = s.heap.objs.size := by rw [← hcenv]; rfl
  have hcl : cenv.cells = cloFrom X.env.cells scope.names [] := by rw [← hcenv]; rfl
  have hsc : cenv.scope = scope := by rw [← hcenv]; rfl
  have mem : ∀ {y c}, cenv.cells.lookup y = some c → X.env.cells.lookup y = some c ∧ c < s.heap.objs.size ∧ scope.names.lookup y = some .free := fun {y c} e => by
    rw [hcl] at e
    rcases cloFrom_mem (PySem.mem_of_lookup e) with hm | ⟨h1, rfl⟩
    · cases hm
    · obtain ⟨c, hc⟩ := hfree _ h1 rfl
      rw [hc]
      obtain ⟨w, z⟩ := I.cell _ _ hc
      exact ⟨rfl, z.lt, ok.uniq _ h1⟩
  have look : ∀ {y}, scope.names.lookup y = some .free → ∃ c, cenv.cells.lookup y = some c ∧ X.env.cells.lookup y = some c := fun {y} hl => by
    have hy : (y, NameKind.free) ∈ scope.names := PySem.mem_of_lookup hl
    obtain ⟨c', e'⟩ := mem_lookup (cloFrom_has (cells := X.env.cells) (acc := []) hy)
    rw [← hcl] at e'
    exact ⟨c', e', (mem e').1⟩
  have nocell : ∀ {y}, scope.names.lookup y ≠ some .cell := fun {y} e => hcell _ (PySem.mem_of_lookup e) rfl
  have okB : (GCx X s H cenv fp A').Ok := by
    refine ⟨I.ok.mod, by show cenv.scope.kind = _; rw [hsc]; exact ok.kind, by show cenv.globals = _; rw [← hcenv]; exact I.ok.glob, by show cenv.builtins = _; rw [← hcenv]; rfl, by show s.heap.objs.size ≤ cenv.locals; rw [hL]; exact Nat.le_refl _,
      fun y z c e1 e2 => I.ok.inj y z c (mem e1).1 (mem e2).1, fun y hy => ?_, fun y c z e => (Bool.false_ne_true z).elim, fun _ => hA, hAf, .inr ⟨rfl, by show cenv.frame = some cenv.locals; rw [← hcenv]; rfl⟩, fun b hb => ⟨?_, fun y c e z => (hfp b hb).1.2.2.2.2.1 y c (mem e).1 z⟩, I.bs, Nat.le_trans I.ok.bsz I.sz, fun b o e hb => ?_, fun b hb z => ?_, I.stack, I.stkFree⟩
    · have hy : scope.names.lookup y = some .cell ∨ scope.names.lookup y = some .free := by
        have hy' : cenv.scope.names.lookup y = some .cell ∨ cenv.scope.names.lookup y = some .free := hy
        rw [hsc] at hy'
        exact hy'
      rcases hy with e | e
      · exact (nocell e).elim
      · obtain ⟨c, h1, _⟩ := look e
        exact ⟨c, h1⟩
    · show b ≠ cenv.locals
      rw [hL]; exact Nat.ne_of_lt (hfp b hb).2
    · rcases (hfp b hb).1.2.2.2.1 with z | z
      · exact I.ok.noex b o e z
      · exact absurd (Nat.lt_of_lt_of_le (Heap.lt_size e) (Nat.le_trans I.ok.bsz z)) (Nat.lt_irrefl _)
    · rcases List.mem_cons.mp (I.stkSub b z) with z | z
      · exact (hfp b hb).1.2.1 z
      · exact (hfp b hb).1.2.2.1 z
  refine ⟨okB, h5o, h5b, Un.kept h5k, ⟨m0, by show s5.heap.Ns cenv.locals m0; rw [hL]; exact h5n, fun i y av e1 e2 e3 => ?_⟩, fun y c e => ?_, by show H cenv.locals = none; rw [hL]; exact I.hok.fresh (Nat.le_refl _), fun y c e => I.freeC y c (mem e).1, fun p hp => ?_, I.hok.kept h5k, by rw [wipe_length]; exact I.len⟩
  · obtain ⟨e2, hne⟩ := wipe_some e2
    have no : ∀ k, scope.names.lookup y = some k → ¬ (k = .local ∨ k = .cell) := fun k e hh => by
      rcases ok.own _ (PySem.mem_of_lookup e) hh with e' | e'
      · obtain ⟨p, hp, hpy⟩ := List.mem_map.mp e'
        have e3 := ok.ix p hp
        have : p.1 = y := hpy
        rw [this] at e3
        exact hne (List.mem_map.mpr ⟨p, hp, nodup_ix hN e3 e1⟩)
      · exact e' (List.mem_of_getElem? e1)
    have e3' : Vis scope y := by
      have e3' : Vis cenv.scope y := e3
      rw [hsc] at e3'
      exact e3'
    have hfr : scope.names.lookup y = some .free := by
      rcases e3' with e | e | e
      · exact (no _ e (.inl rfl)).elim
      · exact (no _ e (.inr rfl)).elim
      · exact e
    obtain ⟨m, hn, hl⟩ := I.loc
    have hvis : Vis X.env.scope y := (ok.free _ (PySem.mem_of_lookup hfr) rfl).elim (fun k => .inr (.inl k)) (fun k => .inr (.inr k))
    obtain ⟨w, r, q⟩ := hl i y av e1 e2 hvis
    refine ⟨w, r, .inr ⟨.inr (by show cenv.scope.names.lookup y = _; rw [hsc]; exact hfr), ?_⟩⟩
    obtain ⟨c, h1, h2⟩ := look hfr
    rcases q with ⟨k, _⟩ | ⟨_, c', e', z⟩
    · have k : X.env.scope.names.lookup y = some .local := k
      rcases ok.free _ (PySem.mem_of_lookup hfr) rfl with k' | k' <;> rw [show X.env.scope.names.lookup y = _ from k'] at k <;> cases k
    · rw [h2] at e'; cases e'
      exact ⟨c, h1, z.keeps h5k⟩
  · obtain ⟨w, z⟩ := I.cell y c (mem e).1
    exact ⟨w, z.keeps h5k⟩
  · have hp' : p = (ag, og) := by simpa using hp
    subst hp'
    refine ⟨h5g, I.hok.fresh (Nat.le_of_lt hag), by show ag ≠ cenv.locals; rw [hL]; exact Nat.ne_of_gt hag, fun z => ?_, hog⟩
    obtain ⟨_, o, ho, _⟩ := I.stack.mem z
    exact absurd (Nat.lt_trans (Heap.lt_size ho) hag) (Nat.lt_irrefl _)
def tGx (K : PySem.W.Frag) (P : Addr) (isAll : Bool) (wi : TI) (g : TG) (te : TE) (vs : List Nat) : TE := fun σ H Q => wi σ H fun J H1 => TabG H1 P ∧ ∀ H1', Tabbed P H1 H1' → ∃ W : Nat → Nat → Hp → Prop, (∃ m, W 0 m H1') ∧ ∀ i m H, W i m H →
  (J.stop i H ∧ Q (.bl isAll) H) ∨ (J.go i H ∧ ∃ Nx : Hp → Prop, (∀ H', Nx H' → ∃ m', m' < m ∧ W (i + 1) m' H') ∧ ∀ x H', J.yld i H x H' → g x (wipe σ vs) H' fun σ2 H2 => wipe σ2 vs = wipe σ vs ∧ te σ2 H2 fun y H3 =>
    ∃ b, y = .bl b ∧ if b = isAll then Nx H3 else Q (.bl b) H3)
def GR (X' : Cx) (pn : List (Addr × Obj)) (Qe : Hp → Prop) : GenEnd := fun _ _ r s₁ => r = .ok .next ∧ ∃ H4 σ4, Inv X' pn σ4 H4 s₁ ∧ Qe H4
def GY (X' : Cx) (pn : List (Addr × Obj)) (isAll : Bool) (Qx : Hp → Prop) : Protocol := fun _ _ v s kap => ∃ H4 σ4 b, v = .bool b ∧ Inv X' pn σ4 H4 s ∧
  if b = isAll then (∀ s'' : Shared, s''.heap = s.heap → s''.os = s.os → AllBare s''.gens → kap (.send .none) s'') else Qx H4
structure GSt (X' : Cx) (pn : List (Addr × Obj)) (isAll : Bool) (Qe Qx : Hp → Prop) (A0 : Around) (ag : Addr) (g n : Nat) (s : Shared) : Prop where
  isg : s.heap.IsGen ag g
  lim : s.heap.NoLimit
  bare : AllBare s.gens
  go : ∃ gs, s.gens[g]? = some gs ∧ gs.Goes (model X'.prog X'.w) A0 (GR X' pn Qe) (GY X' pn isAll Qx) n (.send .none) (s.setGen g .running)
theorem get_set {s : Shared} {g : Nat} {x : GenState} (h : g < s.gens.size) : (s.setGen g x).gens[g]? = some x := by
  show (s.gens.setIfInBounds g x)[g]? = some x
  rw [Array.getElem?_setIfInBounds, if_pos rfl, if_pos h]
theorem turn_gen {X' : Cx} {pn : List (Addr × Obj)} {isAll : Bool} {Qe Qx : Hp → Prop} {A : Around} {ag : Addr} {g n : Nat} {s : Shared} {E : Value → Shared → Prop} {Q : Option Value → Shared → Prop} (hh : A.handled = none) (hroom : A.depth < recursionLimit) (hpn : ∀ σ H s, Inv X' pn σ H s → s.heap.IsGen ag g)
    (S : GSt X' pn isAll Qe Qx A.in1 ag g n s) (h1 : ∀ s', (∃ H4 σ4, Inv X' pn σ4 H4 s' ∧ Qe H4) → Q none s')
    (h2 : ∀ s' b, (if b = isAll then (∃ m, m < n ∧ GSt X' pn isAll Qe Qx A.in1 ag g m s') else ∃ H4 σ4, Inv X' pn σ4 H4 s' ∧ Qx H4) → Q (some (.bool b)) s') : wpAny (model X'.prog X'.w) A (pyNext (.ref ag)) Q E s := by
  obtain ⟨gs, hgs, hgo⟩ := S.go
  have hlt : g < s.gens.size := (Array.getElem?_eq_some_iff.mp hgs).1
  refine GenW.wpAny_gsz (n := g + 1) hlt ?_
  refine wpAny_pyNext_genexpQ (P := fun _ _ s₁ => ∃ H4 σ4, Inv X' pn σ4 H4 s₁ ∧ Qe H4) hh S.lim hroom S.isg hgs hgo (fun v s₁ gs' hb hv hsz => ?_) (fun s₁ hp h' hk hsz => ?_)
  · obtain ⟨H4, σ4, b, rfl, I4, q4⟩ := hv
    have hsz' : g < s₁.gens.size := by
      have e : (s₁.setGen g gs').gens.size = s₁.gens.size := GenW.setGen_size ..
      omega
    refine h2 _ b ?_
    by_cases hb2 : b = isAll
    · rw [if_pos hb2] at q4 ⊢
      have bs : AllBare (s₁.setGen g gs').gens := bare_set I4.bare hb
      have q5 := q4 ((s₁.setGen g gs').setGen g .running) rfl rfl (bare_set bs rfl)
      cases n with
      | zero => exact q5.elim
      | succ m =>
        refine ⟨m, Nat.lt_succ_self m, ⟨hpn _ _ _ (gens_irrel I4 rfl rfl bs), I4.nolimit, bs, gs', get_set hsz', q5⟩⟩
    · rw [if_neg hb2] at q4 ⊢
      exact ⟨H4, σ4, gens_irrel I4 rfl rfl (bare_set I4.bare hb), q4⟩
  · obtain ⟨H4, σ4, I4, q4⟩ := hp
    exact h1 _ ⟨H4, σ4, gens_irrel (s := { s₁ with heap := h' }) (I4.kept (t' := s₁.toks) hk) rfl rfl (bare_set I4.bare rfl), q4⟩
theorem any_loop {X' : Cx} {pn : List (Addr × Obj)} {Qe Qx : Hp → Prop} {A : Around} {ag : Addr} {g : Nat} {R : Result → Shared → Prop} (hh : A.handled = none) (hroom : A.depth < recursionLimit) (hpn : ∀ σ H s, Inv X' pn σ H s → s.heap.IsGen ag g)
    (h1 : ∀ s', (∃ H4 σ4, Inv X' pn σ4 H4 s' ∧ Qe H4) → R (.ok (.ret (.bool false))) s') (h2 : ∀ s', (∃ H4 σ4, Inv X' pn σ4 H4 s' ∧ Qx H4) → R (.ok (.ret (.bool true))) s') : ∀ (n : Nat) (s : Shared),
    GSt X' pn false Qe Qx A.in1.in1 ag g n s → codeAny (model X'.prog X'.w) A (.builtin "any.loop" ⟨[.ref ag], []⟩) R s := by
  intro n
  induction n using Nat.strongRecOn with
  | ind n ih =>
    intro s S
    refine codeAny_builtin F.entry_any_loop ?_
    rw [Around.under_plainId F.plain_any_loop _]
    show wpAny _ A.in1 (pyNext (.ref ag) >>= _) _ _ s
    refine wpAny_bind (turn_gen (A := A.in1) hh hroom hpn S (fun s' q => ?_) fun s' b q => ?_)
    · exact wpAny_bind (wpAny_rule (wpAny_pure (h1 s' q)))
    · refine wpAny_bind (wpAny_holding (wpAny_truthy_bool ?_))
      refine wpAny_bind (wpAny_letGo ?_)
      cases b with
      | false =>
        simp only [Bool.false_eq_true, if_false]
        rw [if_pos rfl] at q
        obtain ⟨m, hm, S'⟩ := q
        exact wpAny_pure ⟨plainId_quiet F.plain_any_loop _, ih m hm s' S'⟩
      | true =>
        simp only [if_true]
        rw [if_neg (by decide)] at q
        exact wpAny_bind (wpAny_rule (wpAny_pure (h2 s' q)))
end
end RG

set_option maxRecDepth 100000
set_option maxHeartbeats 4000000
namespace RG
open PySem PySem.Spec PyProof.Rows L2 GxR
section
variable {X : Cx} {pins : List (Addr × Obj)} {σ : L2.St} {H : Hp} {s : Shared}
theorem ne_not {a b : Bool} (h : ¬ a = b) : a = !b := by
  cases a <;> cases b <;> simp_all
theorem seg_turns {X' : Cx} {elt tg iter : Expr} {scope : Scope} {gpos : Pos} {it ag : Addr} {og : Obj} {fp : List Addr} {tn : Nat → Heap → Prop} {J : It} {vs : List Nat} {g : TG} {te : TE} {isAll : Bool} {Q : VK} {A0 : Around} {W : Nat → Nat → Hp → Prop}
    (hA : X'.A = A0.over (.compLoop (.GeneratorExp elt [⟨tg, iter, [], 0⟩] scope gpos) 0 (.ref it) .none X'.env) []) (hc : X'.calm = true) (hpn : X'.pn = []) (hex : X'.ex = fp) (hxe : X'.xe = fun _ _ => False) (hco : X'.env.scope.isCoroutine = false)
    (T : Turn X'.prog X'.w X'.K tg J fp it tn) (hg : PG X' tg g) (he : PE X' elt te) (hag : ∀ b ∈ fp, ag ≠ b)
    (turn : ∀ i m H, W i m H → (J.stop i H ∧ Q (.bl isAll) H) ∨ (J.go i H ∧ ∃ Nx : Hp → Prop, (∀ H', Nx H' → ∃ m', m' < m ∧ W (i + 1) m' H') ∧ ∀ x H', J.yld i H x H' → g x (wipe σ vs) H' fun σ2 H2 => wipe σ2 vs = wipe σ vs ∧ te σ2 H2 fun y H3 =>
      ∃ b, y = .bl b ∧ if b = isAll then Nx H3 else Q (.bl b) H3)) : ∀ (m n i : Nat) (s₀ s : Shared) (H' : Hp), m < n → Inv X' [(ag, og)] (wipe σ vs) H' s → tn i s.heap → (∀ b ∈ fp, H' b = none) → W i m H' →
      Seg (model X'.prog X'.w) A0 (GR X' [(ag, og)] (Q (.bl isAll))) (GY X' [(ag, og)] isAll (Q (.bl (!isAll)))) n s₀ (.compLoop (.GeneratorExp elt [⟨tg, iter, [], 0⟩] scope gpos) 0 (.ref it) .none X'.env)
        ((model X'.prog X'.w).den (.compLoop (.GeneratorExp elt [⟨tg, iter, [], 0⟩] scope gpos) 0 (.ref it) .none X'.env)) [] s := by
  have stat : ∀ {σ' : L2.St} {H' : Hp} {s' : Shared}, Inv X' [(ag, og)] σ' H' s' → (∀ b ∈ fp, H' b = none) → ∀ b ∈ fp, FpOk X' [(ag, og)] H' b := fun {σ' H' s'} I' hn b hb =>
    ⟨hn b hb, (I'.ok.exf b (by rw [hex]; exact hb)).1, I'.ok.exfs b (by rw [hex]; exact hb), .inl (by rw [hex]; exact hb), fun x c e => (I'.ok.exf b (by rw [hex]; exact hb)).2 x c e, fun p hp => by
      rw [hpn] at hp
      have e : p = (ag, og) := by simpa using hp
      rw [e]
      exact hag b hb⟩
  intro m
  induction m using Nat.strongRecOn with
  | ind m ih =>
    intro n i s₀ s H' hmn I5 st5 n5 w5
    obtain ⟨n, rfl⟩ : ∃ k, n = k + 1 := ⟨n - 1, by omega⟩
    show Seg _ A0 _ _ _ s₀ _ ((compTurn (.GeneratorExp elt [⟨tg, iter, [], 0⟩] scope gpos) 0 (.ref it) .none X'.env).onRaise (leaving X'.env)) [] s
    rw [compTurn_gen, Sem.onRaise_eq_wrap]
    refine seg_bind_wrap (wpAny_standAt ?_)
    rcases turn i m H' w5 with ⟨stop, qq⟩ | ⟨go, Nx, hNx, step⟩
    · have td := T.done X' rfl rfl rfl hc i [(ag, og)] s _ H' (fun _ _ => False) I5 (stat I5 n5) st5 stop
      rw [hA] at td
      refine seg_bind_wrap (thnF td fun r s6 ⟨hr, I6⟩ => ?_)
      subst hr
      exact seg_end (.ok .next) ⟨rfl, H', _, I6, qq⟩
    · have ti := T.item X' rfl rfl rfl hc i [(ag, og)] s _ H' (fun _ _ => False) I5 (stat I5 n5) st5 go
      rw [hA] at ti
      refine seg_bind_wrap (thnF ti fun r s6 ⟨u, hr, h6⟩ => ?_)
      subst hr
      refine seg_bind_wrap (thnF h6 fun _ s7 ⟨x, H7, I7, r7, y7, st7, n7⟩ => ?_)
      have I7' := I7.pinned (stat I7 n7) (T.obj _ _ st7)
      have pg := hg.run _ s7 _ H7 x u _ I7' r7 (step x H7 y7)
      rw [hxe, hA] at pg
      refine seg_bind_wrap (thnF pg fun _ s8 ⟨σ8, H8, I8, hw8, q8⟩ => ?_)
      refine seg_bind_wrap (wpAny_tests_nil ?_)
      simp only [if_true]
      have hy : ∀ v, yieldOut X'.env v = yieldValue v := fun v => by simp only [yieldOut, hco, Bool.false_eq_true, if_false]
      simp only [hy]
      rw [Sem.bind_eq_wrap', Sem.bind_eq_wrap', Sem.wrap_wrap, Sem.wrap_wrap]
      have pe := he.run _ s8 σ8 H8 _ I8 q8
      rw [hxe, hA] at pe
      refine seg_wrap (thnF pe fun z s10 ⟨yv, H10, I10, r10, b, eb, q10⟩ => ?_)
      subst eb
      have rz : z = .bool b := r10
      subst rz
      refine seg_at (seg_yield rfl rfl rfl ⟨H10, σ8, b, rfl, I10.unpinned, ?_⟩)
      by_cases hb : b = isAll
      · rw [if_pos hb] at q10 ⊢
        intro s'' eh eo bs
        obtain ⟨m', hm, w'⟩ := hNx H10 q10
        have pin' : ∀ b ∈ fp, ∀ o, s7.heap.get? b = some o → s10.heap.get? b = some o ∧ H10 b = none := fun b hb o e =>
          let z := I10.pin (b, o) (List.mem_append_right _ (List.mem_append_right _ (mem_pinsAt hb e)))
          ⟨z.1, z.2.1⟩
        have hl : (wipe σ vs).length = σ8.length := by rw [← hw8, wipe_length]
        have I11 : Inv X' [(ag, og)] (wipe σ vs) H10 s'' := gens_irrel ((I10.unpinned (pins := [(ag, og)])).weak hl fun j v e => by
          rw [← hw8] at e
          exact (wipe_some e).1) eh eo bs
        refine seg_again rfl (ih m' hm n (i + 1) s'' s'' H10 (by omega) I11 (T.keep _ _ _ st7 fun b hb o e => by rw [eh]; exact (pin' b hb o e).1) (fun b hb => ?_) w')
        obtain ⟨o, e, _⟩ := T.obj _ _ st7 b hb
        exact (pin' b hb o e).2
      · rw [if_neg hb] at q10 ⊢
        have e : b = !isAll := ne_not hb
        rw [← e]
        exact q10
theorem seg_begin {X' : Cx} {elt tg iter : Expr} {scope : Scope} {gpos : Pos} {it : Addr} {fp : List Addr} {tn : Nat → Heap → Prop} {J : It} {A0 : Around} {R : GenEnd} {Y : Protocol} {n i : Nat} {s₀ s : Shared} {cenv : Env}
    (T : Turn X'.prog X'.w X'.K tg J fp it tn) (st : tn i s.heap) (loop : Seg (model X'.prog X'.w) A0 R Y n s₀ (.compLoop (.GeneratorExp elt [⟨tg, iter, [], 0⟩] scope gpos) 0 (.ref it) .none cenv) ((model X'.prog X'.w).den (.compLoop (.GeneratorExp elt [⟨tg, iter, [], 0⟩] scope gpos) 0 (.ref it) .none cenv)) [] s) :
    Seg (model X'.prog X'.w) A0 R Y n s₀ (.compStart (.GeneratorExp elt [⟨tg, iter, [], 0⟩] scope gpos) 0 (.ref it) .none cenv) ((model X'.prog X'.w).den (.compStart (.GeneratorExp elt [⟨tg, iter, [], 0⟩] scope gpos) 0 (.ref it) .none cenv)) [] s := by
  show Seg _ A0 _ _ _ s₀ _ ((compStart (.GeneratorExp elt [⟨tg, iter, [], 0⟩] scope gpos) 0 (.ref it) .none cenv).onRaise (leaving cenv)) [] s
  unfold compStart
  rw [Sem.onRaise_eq_wrap]
  show Seg _ A0 _ _ _ s₀ _ ((ask >>= _).wrap _ _ _ _) [] s
  refine seg_bind_wrap (wpAny_askSetting ?_)
  split
  · exact seg_again rfl loop
  · first
      | exact seg_bind_wrap (wpAny_rule (seg_bind_wrap (wpAny_standAt (seg_bind_wrap (T.self _ i s _ _ st (seg_again rfl loop))))))
      | (refine seg_bind_wrap (wpAny_rule ?_); show Seg _ A0 _ _ _ s₀ _ ((standAt iter.pos >>= _).wrap _ _ _ _) [] s; exact seg_bind_wrap (wpAny_standAt (seg_bind_wrap (T.self _ i s _ _ st (seg_again rfl loop)))))

abbrev GA (A : Around) (elt tg iter : Expr) (scope : Scope) (gpos : Pos) (it : Addr) (cenv : Env) : Around := A.in1.in1.over (.compLoop (.GeneratorExp elt [⟨tg, iter, [], 0⟩] scope gpos) 0 (.ref it) .none cenv) []
structure GAo (A A' : Around) : Prop where
  hd : A'.handled = none
  dp : A'.depth ≤ A.depth + 1
  un : A'.units ≤ A.units + 8
  gd : A'.guards = A.guards
theorem gao {A : Around} {elt tg iter : Expr} {scope : Scope} {gpos : Pos} {it : Addr} {cenv : Env} (hh : A.handled = none) : GAo A (GA A elt tg iter scope gpos it cenv) := ⟨hh, Nat.le_of_eq rfl, by show A.units + 1 + 1 + 0 + 3 ≤ _; omega, rfl⟩
theorem gaf {A : Around} {elt tg iter : Expr} {scope : Scope} {gpos : Pos} {it : Addr} {cenv : Env} {l : List Env} (h : A.frames = some l) : (GA A elt tg iter scope gpos it cenv).frames = some (cenv :: l) := by
  show pushEnvs [cenv] (pushEnvs [] A.frames) = _
  rw [h]
  rfl
theorem gx_make {P c : Addr} {elt tg iter : Expr} {scope : Scope} {gpos : Pos} {own : List (Str × Nat)} {wi : TI} {g : TG} {te : TE} {isAll : Bool} {Q : VK} {Qf : Value → Shared → Prop} (hh : X.A.handled = none) (hroom : X.A.depth < recursionLimit)
    (hc : X.calm = true) (hN : X.N.Nodup) (TB : TabB X.base X.mg c P) (hcode : X.env.code = .ref c) (hi : PI X tg iter wi) (ok : BlkOk X.N X.env.scope scope own) (hco : scope.isCoroutine = false) (hcell : ∀ y ∈ scope.names, y.2 ≠ .cell) (hdot : scope.names.lookup (".0" : Str) = some NameKind.local)
    (hg : ∀ (s : Shared) (H : Hp) (C : Addr) (code : Value) (cl : List (Str × Addr)) (fp : List Addr) (A' : Around), GAo X.A A' → PG (GCx X s H (genEnv scope cl C code builtinsNs X.env) fp A') tg g)
    (he : ∀ (s : Shared) (H : Hp) (C : Addr) (code : Value) (cl : List (Str × Addr)) (fp : List Addr) (A' : Around), GAo X.A A' → PE (GCx X s H (genEnv scope cl C code builtinsNs X.env) fp A') elt te)
    (hs : ∀ v, genFold iter X.env v = pure v) (I : Inv X pins σ H s) (h : tGx X.K P isAll wi g te (own.map (·.2)) σ H Q)
    (hQ : ∀ (X' : Cx) (ag gn : Nat) (pn : List (Addr × Obj)) (n : Nat) (s5 : Shared), X'.prog = X.prog → X'.w = X.w → (∀ σ H s, Inv X' pn σ H s → s.heap.IsGen ag gn) → (∀ σ' H' s', Inv X' pn σ' H' s' → Inv X pins σ H' s') →
      GSt X' pn isAll (Q (.bl isAll)) (Q (.bl (!isAll))) X.A.in1.in1 ag gn n s5 → Qf (.ref ag) s5) :
    wpAny (model X.prog X.w) X.A (eval (.GeneratorExp elt [⟨tg, iter, [], 0⟩] scope gpos) X.env) Qf X.xe s := by
  have hfree : ∀ y ∈ scope.names, y.2 = .free → ∃ c, X.env.cells.lookup y.1 = some c := fun y hy e => by
    rcases ok.free y hy e with k | k
    · exact I.ok.has _ (.inl k)
    · exact I.ok.has _ (.inr k)
  refine wpAny_GeneratorExp_make hco (closure_ok hfree) hcell hdot ok.kind hroom ?_ hs
  refine thn (hi.run pins s σ H _ I h) fun xv s1 hx => thn hx fun itv s2 h2 => ?_
  obtain ⟨it, fp, tn, J, H2, e, I2, T, st2, f2, ⟨ps, hP, ht⟩, q⟩ := h2
  subst e
  refine ⟨I2.nolimit, ?_⟩
  have hPs : s2.heap.get? P = some { cls := .none, data := .fields ps } := I2.hok P _ hP
  have cd : PySem.W.CodeHd s2.heap c P := TB.code.keeps fun b u e => I2.bk b u e
  have fpP : ∀ b ∈ fp, b ≠ P := fun b hb z => by
    have := (f2 b hb).1
    rw [z, hP] at this
    cases this
  have cont : ∀ (code : Value) (h3 : Heap) (tk : Nat) (ps' : Array Value), Heap.ExtBut P s2.heap h3 → s2.heap.objs.size ≤ h3.objs.size → h3.get? P = some { cls := .none, data := .fields ps' } → (∃ more, ps' = ps ++ more) → TriplesOk ps'.toList →
      wpAny (model X.prog X.w) X.A (builtinsFor X.env.globals X.env.builtins) (fun bi s₄ =>
        ∀ h', h'.Ns s₄.heap.objs.size (fun y => if y = ".0" then some (.ref it) else none) → Heap.SameBut s₄.heap.objs.size (s₄.heap.push { cls := .type "frame", data := .dict #[] }) h' →
          Qf (.ref h'.objs.size) { s₄ with
            gens := s₄.gens.push (.fresh (.compStart (.GeneratorExp elt [⟨tg, iter, [], 0⟩] scope gpos) 0 (.ref it) .none (genEnv scope (cloFrom X.env.cells scope.names []) s₄.heap.objs.size code bi X.env))),
            toks := s₄.toks + 1 + 1 + 1,
            heap := h'.push { cls := .type "generator", data := .fields #[.int s₄.gens.size 0, .str "<genexpr>" (s₄.toks + 1), .str (X.env.qual ++ "<genexpr>") (s₄.toks + 1 + 1)] } }) X.xe { s2 with heap := h3, toks := tk } := by
    intro code h3 tk ps' hx3 hsz hP3 hmore ht3
    obtain ⟨bm, ob, e1, e2, e3, e4, e5, e6, e7, e8⟩ := TB.bm
    obtain ⟨more, em⟩ := hmore
    have keep3 : ∀ b u, b ≠ P → s2.heap.get? b = some u → h3.get? b = some u := fun b u hb e => hx3 b u hb e
    refine wpAny_builtinsFor (m := X.mg) (by rw [I2.ok.glob]; exact ((I2.mod.glob.keeps I2.bk)).extBut hx3 TB.gP) e1 e2 (keep3 _ _ e4 (I2.bk _ _ e5)) e6 e7 e8 ?_
    have I3 : Inv X pins σ (upd H2 P (.tbl (ps ++ more))) { s2 with heap := h3, toks := tk } := inv_tab (more := more) (h' := h3) (g' := s2.gens) (d' := s2.drawn) (t' := tk) I2 hP (fun b u hb e => keep3 b u hb e) (by rw [← em]; exact hP3) I2.bare
    generalize hs3 : ({ s2 with heap := h3, toks := tk } : Shared) = s3 at I3 ⊢
    have e3h : s3.heap = h3 := by rw [← hs3]
    have e3g : s3.gens = s2.gens := by rw [← hs3]
    intro h' hn' hsb
    obtain ⟨W, ⟨m0, w0⟩, turn⟩ := q (upd H2 P (.tbl (ps ++ more))) ⟨⟨ps ++ more, upd_same, by rw [← em]; exact ht3⟩, fun b hb => upd_ne hb⟩
    generalize hH3 : upd H2 P (.tbl (ps ++ more)) = H3 at I3 w0
    have szh : h'.objs.size = s3.heap.objs.size + 1 := by rw [hsb.1, Heap.size_push]
    have kp' : ∀ b o, s3.heap.get? b = some o → h'.get? b = some o := fun b o e => hsb.extBut b o (Nat.ne_of_lt (Heap.lt_size e)) (Heap.get?_push_of_some _ e)
    have kp5 : ∀ b o, s3.heap.get? b = some o → (h'.push { cls := .type "generator", data := .fields #[.int s3.gens.size 0, .str "<genexpr>" (s3.toks + 1), .str (X.env.qual ++ "<genexpr>") (s3.toks + 1 + 1)] }).get? b = some o := fun b o e => Heap.get?_push_of_some _ (kp' b o e)
    generalize hog : ({ cls := .type "generator", data := .fields #[.int s3.gens.size 0, .str "<genexpr>" (s3.toks + 1), .str (X.env.qual ++ "<genexpr>") (s3.toks + 1 + 1)] } : Obj) = og at kp5 ⊢
    have gog : (h'.push og).get? h'.objs.size = some og := Heap.get?_push_size _ (by rw [← hog]; rfl)
    have isg : ∀ hh : Heap, hh.get? h'.objs.size = some og → hh.IsGen h'.objs.size s3.gens.size := fun hh e => ⟨og, _, _, e, by rw [← hog], by rw [← hog], by rw [← hog]⟩
    have f3 : ∀ b ∈ fp, FpOk X pins H3 b ∧ b < s3.heap.objs.size := fun b hb => by
      have hb2 := fpP b hb
      obtain ⟨o, eo, _⟩ := T.obj _ _ st2 b hb
      refine ⟨⟨?_, (f2 b hb).2⟩, ?_⟩
      · rw [← hH3, upd_ne hb2]
        exact (f2 b hb).1
      · rw [e3h]
        exact Nat.lt_of_lt_of_le (Heap.lt_size eo) hsz
    have st3 : tn 0 s3.heap := T.keep _ _ _ st2 fun b hb o e => by
      rw [e3h]
      exact keep3 b o (fpP b hb) e
    generalize hce : genEnv scope (cloFrom X.env.cells scope.names []) s3.heap.objs.size code builtinsNs X.env = cenv
    have cL : cenv.locals = s3.heap.objs.size := by subst hce; rfl
    have hA' := gao (A := X.A) (elt := elt) (tg := tg) (iter := iter) (scope := scope) (gpos := gpos) (it := it) (cenv := cenv) hh
    have hAf := gaf (A := X.A) (elt := elt) (tg := tg) (iter := iter) (scope := scope) (gpos := gpos) (it := it) (cenv := cenv) I.ok.frames
    have pg := hg s3 H3 s3.heap.objs.size code (cloFrom X.env.cells scope.names []) fp _ hA'
    have pe := he s3 H3 s3.heap.objs.size code (cloFrom X.env.cells scope.names []) fp _ hA'
    rw [hce] at pg pe
    have hag : s3.heap.objs.size < h'.objs.size := by rw [szh]; exact Nat.lt_succ_self _
    have start : ∀ s5 : Shared, s5.heap = h'.push og → s5.os = s3.os → AllBare s5.gens → Inv (GCx X s3 H3 cenv fp (GA X.A elt tg iter scope gpos it cenv)) [(h'.objs.size, og)] (wipe σ (own.map (·.2))) H3 s5 := fun s5 eh eo eb => by
      have z := gen_start (own := own) (fp := fp) (C := s3.heap.objs.size) (ag := h'.objs.size) (og := og) (code := code) (A' := GA X.A elt tg iter scope gpos it cenv) (s5 := s5) (m0 := fun y => if y = ".0" then some (.ref it) else none) I3 ok hN hcell f3 hA'.hd (by rw [hce]; exact hAf) rfl eo eb (by rw [eh]; exact hn'.push _) (by rw [eh]; exact kp5) (by rw [eh]; exact gog) hag (by rw [← hog]; intro v z; cases z)
      rw [hce] at z
      exact z
    have bs5 : AllBare (s3.gens.push (.fresh (.compStart (.GeneratorExp elt [⟨tg, iter, [], 0⟩] scope gpos) 0 (.ref it) .none cenv))) := I3.bare.push rfl
    have T' : Turn (GCx X s3 H3 cenv fp (GA X.A elt tg iter scope gpos it cenv)).prog (GCx X s3 H3 cenv fp (GA X.A elt tg iter scope gpos it cenv)).w (GCx X s3 H3 cenv fp (GA X.A elt tg iter scope gpos it cenv)).K tg J fp it tn := T
    have hx := hQ (GCx X s3 H3 cenv fp (GA X.A elt tg iter scope gpos it cenv)) h'.objs.size s3.gens.size [(h'.objs.size, og)] (m0 + 1) { s3 with
            gens := s3.gens.push (.fresh (.compStart (.GeneratorExp elt [⟨tg, iter, [], 0⟩] scope gpos) 0 (.ref it) .none cenv)),
            toks := s3.toks + 1 + 1 + 1,
            heap := h'.push og } rfl rfl (fun σ H s I' => isg _ (I'.pin (h'.objs.size, og) (by simp)).1) (fun σ' H' s' I' => ?_) ⟨isg _ gog, (start { s3 with gens := s3.gens.push (.fresh (.compStart (.GeneratorExp elt [⟨tg, iter, [], 0⟩] scope gpos) 0 (.ref it) .none cenv)), toks := s3.toks + 1 + 1 + 1, heap := h'.push og } rfl rfl bs5).nolimit, bs5, _, Array.getElem?_push_size .., rfl, ?_⟩
    · exact hx
    · exact I3.call' (ch := fp) I'.os I'.base I'.hok I'.bare fun b hb => ⟨(f3 b hb).1.2.2.2.1, (f3 b hb).1.2.1, (f3 b hb).1.2.2.2.2.1, (f3 b hb).1.2.2.2.2.2⟩
    · have hag' : ∀ b ∈ fp, h'.objs.size ≠ b := fun b hb z => absurd (Nat.lt_trans (f3 b hb).2 hag) (by rw [z]; exact Nat.lt_irrefl _)
      have st5 : tn 0 (h'.push og) := T.keep _ _ _ st3 fun b hb o e => kp5 b o e
      have n5 : ∀ b ∈ fp, H3 b = none := fun b hb => (f3 b hb).1.1
      refine seg_begin (X' := GCx X s3 H3 cenv fp (GA X.A elt tg iter scope gpos it cenv)) T' (i := 0) st5 ?_
      exact seg_turns (X' := GCx X s3 H3 cenv fp (GA X.A elt tg iter scope gpos it cenv)) (σ := σ) (vs := own.map (·.2)) rfl hc rfl rfl rfl (by show cenv.scope.isCoroutine = false; rw [← hce]; exact hco) T' pg pe hag' turn m0 (m0 + 1) 0 _ _ H3 (Nat.lt_succ_self _) (start _ rfl rfl (bare_set (s := { s3 with gens := s3.gens.push (.fresh (.compStart (.GeneratorExp elt [⟨tg, iter, [], 0⟩] scope gpos) 0 (.ref it) .none cenv)), toks := s3.toks + 1 + 1 + 1, heap := h'.push og }) bs5 rfl)) st5 n5 w0
  cases hf : codeAmong gpos ps.toList with
  | none =>
    refine wpAny_genexprCodeX hcode (cd.code hPs ht) (cd.tab hPs) hf fun c' h' tk hx hge hlt hco' _ htab' _ => ?_
    obtain ⟨o1, vs, f1, tf, fl, tg', inF, tx, tt, op, _, _, _, _, _, _, _, _, _, htr, _⟩ := hco'
    exact cont _ h' tk _ hx (Nat.le_trans hge (Nat.le_of_lt hlt)) htab'.2 ⟨_, rfl⟩ htr
  | some cv =>
    refine wpAny_genexprCode_hit hcode (cd.code hPs ht) hf ?_
    exact cont cv s2.heap s2.toks ps (Heap.ExtBut.refl _ _) (Nat.le_refl _) hPs ⟨#[], by simp⟩ ht

theorem pe_any {P c : Addr} {elt tg iter : Expr} {scope : Scope} {p pos gpos : Pos} {own : List (Str × Nat)} {wi : TI} {g : TG} {te : TE} (hh : X.A.handled = none) (hroom : X.A.depth < recursionLimit)
    (hgl : Gl X "any") (hm : X.mg "any" = none) (hc : X.calm = true) (hN : X.N.Nodup) (TB : TabB X.base X.mg c P) (hcode : X.env.code = .ref c) (hi : PI X tg iter wi) (ok : BlkOk X.N X.env.scope scope own) (hco : scope.isCoroutine = false) (hcell : ∀ y ∈ scope.names, y.2 ≠ .cell) (hdot : scope.names.lookup (".0" : Str) = some NameKind.local)
    (hg : ∀ (s : Shared) (H : Hp) (C : Addr) (code : Value) (cl : List (Str × Addr)) (fp : List Addr) (A' : Around), GAo X.A A' → PG (GCx X s H (genEnv scope cl C code builtinsNs X.env) fp A') tg g)
    (he : ∀ (s : Shared) (H : Hp) (C : Addr) (code : Value) (cl : List (Str × Addr)) (fp : List Addr) (A' : Around), GAo X.A A' → PE (GCx X s H (genEnv scope cl C code builtinsNs X.env) fp A') elt te)
    (hs : ∀ v, genFold iter X.env v = pure v)
    (hse : starEach [.GeneratorExp elt [⟨tg, iter, [], 0⟩] scope gpos] X.env = (false, eval (.GeneratorExp elt [⟨tg, iter, [], 0⟩] scope gpos) X.env) :: starEach [] X.env := by rfl) :
    PE X (.Call (.Name "any" p) [.GeneratorExp elt [⟨tg, iter, [], 0⟩] scope gpos] [] pos) (tGx X.K P false wi g te (own.map (·.2))) := by
  refine ⟨fun pins s σ H Q I h => ?_⟩
  refine wpAny_Call_Name_kw (ld_blt I hgl hm boot_any ?_)
  refine PyProof.Rows.callWith_builtin1 ?_ hse (by rfl)
  rw [hse]
  show wpAny _ _ (spliced ((false, eval (.GeneratorExp elt [⟨tg, iter, [], 0⟩] scope gpos) X.env) :: backTo pos (starEach [] X.env))) _ _ s
  refine Calls.spliced_cons (gx_make (isAll := false) (Q := Q) hh hroom hc hN TB hcode hi ok hco hcell hdot hg he hs I h fun X' ag gn pn n s5 e1 e2 hpn hback S => ?_)
  refine Calls.spliced_nil ?_
  refine call_function_tree F.kind_any F.plain_any F.entry_any (F.args_any1 _) ?_
  unfold Builtin.«any»
  refine wpAny_bind (m := oneArg "any" _) (wpAny_pure ?_)
  refine wpAny_bind (wpAny_pyIter_gen S.isg ?_)
  refine wpAny_pure ⟨plainId_quiet F.plain_any_loop _, ?_⟩
  have hl := any_loop (X' := X') (pn := pn) (Qe := Q (.bl false)) (Qx := Q (.bl true)) (A := X.A) (R := fun r s' => ∃ b, r = .ok (.ret (.bool b)) ∧ EP X pins σ Q (.bool b) s') hh hroom hpn
    (fun s' ⟨H4, σ4, I4, q4⟩ => ⟨false, rfl, .bl false, H4, hback _ _ _ I4, rfl, q4⟩) (fun s' ⟨H4, σ4, I4, q4⟩ => ⟨true, rfl, .bl true, H4, hback _ _ _ I4, rfl, q4⟩) n s5 S
  rw [e1, e2] at hl
  exact codeAny_mono hl fun r s' ⟨b, er, q⟩ => by
    subst er
    exact q
theorem boot_all : bootBuiltins "all" = some (.builtin "all") := by decide +kernel
end
end RG

set_option maxRecDepth 100000
set_option maxHeartbeats 4000000

namespace RG
open PySem PySem.Spec PyProof.Rows L2
end RG

set_option maxRecDepth 100000
set_option maxHeartbeats 4000000

namespace RT
open PySem PySem.Spec PyProof.Rows L2

inductive Dt where
  | non | bl (b : Bool) | int (i : Int) | str (s : Str) | tup (ds : List Dt) | lst (ds : List Dt)

mutual
def Rep (K : PySem.W.Frag) (F : Hp) : Dt → V → Prop
  | .non, v => v = .non
  | .bl b, v => v = .bl b
  | .int i, v => v = .int i
  | .str s, v => v = .str s
  | .tup ds, v => ∃ a vs, v = .ref a ∧ SqT K F a vs ∧ Reps K F ds vs
  | .lst ds, v => ∃ a vs, v = .ref a ∧ Rd F a (.lst vs) ∧ Reps K F ds vs
def Reps (K : PySem.W.Frag) (F : Hp) : List Dt → List V → Prop
  | [], vs => vs = []
  | d :: ds, vs => ∃ v r, vs = v :: r ∧ Rep K F d v ∧ Reps K F ds r
end

theorem seqT_mono {K : PySem.W.Frag} {H H' : Hp} {a : Addr} {xs : List V} (e : Same H H') (h : SqT K H a xs) : SqT K H' a xs := by
  rcases h with (h | ⟨o, h⟩) | h
  · exact .inl (.inl (e _ _ h))
  · exact .inl (.inr ⟨o, e _ _ h⟩)
  · exact .inr h
theorem rd_mono {H H' : Hp} {a : Addr} {u : HO} (e : Same H H') (h : Rd H a u) : Rd H' a u := by
  rcases h with h | ⟨o, h⟩
  · exact .inl (e _ _ h)
  · exact .inr ⟨o, e _ _ h⟩
section
variable {K : PySem.W.Frag} {F F' : Hp}
mutual
theorem Rep.mono (e : Same F F') : ∀ {d : Dt} {v : V}, Rep K F d v → Rep K F' d v
  | .non, _, h => by simpa only [Rep] using h
  | .bl _, _, h => by simpa only [Rep] using h
  | .int _, _, h => by simpa only [Rep] using h
  | .str _, _, h => by simpa only [Rep] using h
  | .tup ds, v, h => by
    simp only [Rep] at h ⊢
    obtain ⟨a, vs, e1, s, r⟩ := h
    exact ⟨a, vs, e1, seqT_mono e s, Reps.mono e r⟩
  | .lst ds, v, h => by
    simp only [Rep] at h ⊢
    obtain ⟨a, vs, e1, s, r⟩ := h
    exact ⟨a, vs, e1, rd_mono e s, Reps.mono e r⟩
theorem Reps.mono (e : Same F F') : ∀ {ds : List Dt} {vs : List V}, Reps K F ds vs → Reps K F' ds vs
  | [], _, h => by simpa only [Reps] using h
  | d :: ds, vs, h => by
    simp only [Reps] at h ⊢
    obtain ⟨v, r, e1, h1, h2⟩ := h
    exact ⟨v, r, e1, Rep.mono e h1, Reps.mono e h2⟩
end
theorem Reps.nil : Reps K F [] [] := by simp only [Reps]
theorem Reps.cons {d : Dt} {v : V} {ds : List Dt} {vs : List V} (h : Rep K F d v) (t : Reps K F ds vs) : Reps K F (d :: ds) (v :: vs) := by
  simp only [Reps]
  exact ⟨v, vs, rfl, h, t⟩
theorem Reps.length : ∀ {ds : List Dt} {vs : List V}, Reps K F ds vs → ds.length = vs.length
  | [], vs, h => by
    simp only [Reps] at h
    rw [h]
    rfl
  | d :: ds, vs, h => by
    simp only [Reps] at h
    obtain ⟨v, r, rfl, _, h2⟩ := h
    rw [List.length_cons, List.length_cons, Reps.length h2]
theorem Reps.append : ∀ {ds es : List Dt} {vs us : List V}, Reps K F ds vs → Reps K F es us → Reps K F (ds ++ es) (vs ++ us)
  | [], es, vs, us, h, h' => by
    simp only [Reps] at h
    rw [h]
    exact h'
  | d :: ds, es, vs, us, h, h' => by
    simp only [Reps] at h
    obtain ⟨v, r, rfl, h1, h2⟩ := h
    exact .cons h1 (Reps.append h2 h')
theorem Reps.get : ∀ {ds : List Dt} {vs : List V} {i : Nat} {d : Dt}, Reps K F ds vs → ds[i]? = some d → ∃ v, vs[i]? = some v ∧ Rep K F d v
  | [], _, _, _, _, e => by simp at e
  | d :: ds, vs, 0, d', h, e => by
    simp only [Reps] at h
    obtain ⟨v, r, rfl, h1, h2⟩ := h
    cases e
    exact ⟨v, rfl, h1⟩
  | d :: ds, vs, i + 1, d', h, e => by
    simp only [Reps] at h
    obtain ⟨v, r, rfl, h1, h2⟩ := h
    exact Reps.get (i := i) h2 e
theorem Reps.take : ∀ {ds : List Dt} {vs : List V} (n : Nat), Reps K F ds vs → Reps K F (ds.take n) (vs.take n)
  | _, _, 0, _ => by
    rw [List.take_zero, List.take_zero]
    exact .nil
  | [], vs, n + 1, h => by
    simp only [Reps] at h
    rw [h]
    exact .nil
  | d :: ds, vs, n + 1, h => by
    simp only [Reps] at h
    obtain ⟨v, r, rfl, h1, h2⟩ := h
    exact .cons h1 (Reps.take n h2)
theorem Reps.drop : ∀ {ds : List Dt} {vs : List V} (n : Nat), Reps K F ds vs → Reps K F (ds.drop n) (vs.drop n)
  | _, _, 0, h => h
  | [], vs, n + 1, h => by
    simp only [Reps] at h
    rw [h]
    exact .nil
  | d :: ds, vs, n + 1, h => by
    simp only [Reps] at h
    obtain ⟨v, r, rfl, h1, h2⟩ := h
    exact Reps.drop n h2
theorem Reps.set {x : Dt} {u : V} (hx : Rep K F x u) : ∀ {ds : List Dt} {vs : List V} (n : Nat), Reps K F ds vs → Reps K F (ds.set n x) (vs.set n u)
  | [], vs, n, h => by
    simp only [Reps] at h
    rw [h]
    exact .nil
  | d :: ds, vs, 0, h => by
    simp only [Reps] at h
    obtain ⟨v, r, rfl, h1, h2⟩ := h
    exact .cons hx h2
  | d :: ds, vs, n + 1, h => by
    simp only [Reps] at h
    obtain ⟨v, r, rfl, h1, h2⟩ := h
    exact .cons h1 (Reps.set hx n h2)
end

inductive Vl where
  | d (x : Dt) | c (k : Nat)
inductive Cell where
  | lst (xs : List Dt) | dead
structure M where
  sl : List (Option Vl)
  st : List Cell
def RepV (K : PySem.W.Frag) (F : Hp) (A : List Addr) : Vl → V → Prop
  | .d x, v => Rep K F x v
  | .c k, v => ∃ a, A[k]? = some a ∧ v = .ref a
theorem RepV.mono {K : PySem.W.Frag} {F F' : Hp} {A A' : List Addr} (e : Same F F') (p : A <+: A') : ∀ {x : Vl} {v : V}, RepV K F A x v → RepV K F' A' x v
  | .d x, v, h => Rep.mono e h
  | .c k, v, h => by
    obtain ⟨a, h1, h2⟩ := h
    obtain ⟨t, rfl⟩ := p
    obtain ⟨hk, _⟩ := List.getElem?_eq_some_iff.mp h1
    exact ⟨a, by rw [List.getElem?_append_left hk]; exact h1, h2⟩

def gdefs : List (Str × Option Str) := [("triple_weights", none), ("is_certificate", none), ("contains_ray", none), ("is_empty", none), ("is_bounded", none), ("natural_of", none), ("fraction_of", none), ("parse_train", none)]
def tabK (K : PySem.W.Frag) (p : Str × Option Str) : Option (Addr × Addr) := match K.lookup (He.fAd K p) with
  | some ⟨_, _, .func fd, _⟩ => (match fd.code with
    | .ref c => (match K.lookup c with
      | some ⟨_, _, .fields vs, _⟩ => (match vs.getD 11 .none with
        | .ref P => some (c, P)
        | _ => none)
      | _ => none)
    | _ => none)
  | _ => none
def tabsK (K : PySem.W.Frag) : List (Addr × Addr) := gdefs.filterMap (tabK K)
theorem tab_upd {H : Hp} {P p : Addr} {o : HO} (t : GxR.TabG H P) (n : H p = none) : GxR.TabG (upd H p o) P := by
  obtain ⟨ps, h, ok⟩ := t
  exact ⟨ps, by rw [upd_ne (ne_of_none h n)]; exact h, ok⟩
theorem tab_ne {H : Hp} {P a : Addr} {vs : List V} (t : GxR.TabG H P) (n : H a = some (.lst vs)) : P ≠ a := fun z => by
  obtain ⟨ps, h, ok⟩ := t
  rw [z, n] at h
  cases h
theorem tab_lst {H : Hp} {P a : Addr} {vs : List V} {o : HO} (t : GxR.TabG H P) (n : H a = some (.lst vs)) : GxR.TabG (upd H a o) P := by
  have ne := tab_ne t n
  obtain ⟨ps, h, ok⟩ := t
  exact ⟨ps, by rw [upd_ne ne]; exact h, ok⟩
theorem tab_some {H : Hp} {P p : Addr} (t : GxR.TabG H P) (n : H p = none) : P ≠ p := fun z => by
  obtain ⟨ps, h, ok⟩ := t
  rw [z, n] at h
  cases h
structure Good (K : PySem.W.Frag) (W F : Hp) (A : List Addr) (m : M) (σ : L2.St) (H : Hp) : Prop where
  ext : Same F H
  hid : Same W H
  dj : ∀ a o, W a = some o → F a = none
  slen : m.sl.length = σ.length
  sl : ∀ (i : Nat) (v : Vl), m.sl[i]? = some (some v) → ∃ u : V, σ[i]? = some (some u) ∧ RepV K F A v u
  len : A.length = m.st.length
  st : ∀ (k : Nat) (xs : List Dt), m.st[k]? = some (Cell.lst xs) → ∃ (a : Addr) (vs : List V), A[k]? = some a ∧ H a = some (.lst vs) ∧ Reps K F xs vs ∧ F a = none ∧ W a = none
  nd : ∀ (j k : Nat) (xs ys : List Dt) (a : Addr), m.st[j]? = some (.lst xs) → m.st[k]? = some (.lst ys) → A[j]? = some a → A[k]? = some a → j = k
  tb : ∀ q ∈ tabsK K, GxR.TabG H q.2 ∧ F q.2 = none ∧ W q.2 = none

abbrev DE := M → (Vl → M → Prop) → Prop
abbrev DA := M → (List Vl → M → Prop) → Prop
abbrev DT := M → (Bool → M → Prop) → Prop
structure DEnds where
  nx : M → Prop
  rt : Vl → M → Prop
  bk : M → Prop
  ct : M → Prop
abbrev DS := DEnds → M → Prop

def After (K : PySem.W.Frag) (W F : Hp) (A : List Addr) (σ : L2.St) {α : Type} (Q : α → M → Prop) (R : Hp → List Addr → α → Hp → Prop) : Prop :=
  ∀ F' A' x m' H', Same F F' → A <+: A' → Good K W F' A' m' σ H' → Q x m' → R F' A' x H'
def lift (K : PySem.W.Frag) (t : DE) : TE := fun σ H Q => ∃ W F A m Qd, Good K W F A m σ H ∧ t m Qd ∧
  After K W F A σ Qd fun F' A' v H' => ∀ u, RepV K F' A' v u → Q u H'
def liftT (K : PySem.W.Frag) (t : DT) : TT := fun σ H Q => ∃ W F A m Qd, Good K W F A m σ H ∧ t m Qd ∧
  After K W F A σ Qd fun _ _ b H' => Q b H'
def RepVs (K : PySem.W.Frag) (F : Hp) (A : List Addr) : List Vl → List V → Prop
  | [], us => us = []
  | v :: vs, us => ∃ u r, us = u :: r ∧ RepV K F A v u ∧ RepVs K F A vs r
theorem RepVs.mono {K : PySem.W.Frag} {F F' : Hp} {A A' : List Addr} (e : Same F F') (p : A <+: A') : ∀ {x : List Vl} {v : List V}, RepVs K F A x v → RepVs K F' A' x v
  | [], _, h => h
  | _ :: _, _, h => by
    obtain ⟨u, r, e1, h1, h2⟩ := h
    exact ⟨u, r, e1, RepV.mono e p h1, RepVs.mono e p h2⟩
theorem RepVs.length {K : PySem.W.Frag} {F : Hp} {A : List Addr} : ∀ {x : List Vl} {v : List V}, RepVs K F A x v → x.length = v.length
  | [], _, h => by
    have e := h
    simp only [RepVs] at e
    rw [e]
    rfl
  | _ :: _, _, h => by
    obtain ⟨u, r, rfl, h1, h2⟩ := h
    rw [List.length_cons, List.length_cons, RepVs.length h2]
def liftA (K : PySem.W.Frag) (t : DA) : TA := fun σ H Q => ∃ W F A m Qd, Good K W F A m σ H ∧ t m Qd ∧
  After K W F A σ Qd fun F' A' vs H' => ∀ us, RepVs K F' A' vs us → Q us H'
structure Conts (K : PySem.W.Frag) (W F : Hp) (A : List Addr) (E : DEnds) (D : Ends) : Prop where
  nx : ∀ F' A' m' σ' H', Same F F' → A <+: A' → Good K W F' A' m' σ' H' → E.nx m' → D.nx σ' H'
  rt : ∀ F' A' m' σ' H' v u, Same F F' → A <+: A' → Good K W F' A' m' σ' H' → RepV K F' A' v u → E.rt v m' → D.rt u H'
  bk : ∀ F' A' m' σ' H', Same F F' → A <+: A' → Good K W F' A' m' σ' H' → E.bk m' → D.bk σ' H'
  ct : ∀ F' A' m' σ' H', Same F F' → A <+: A' → Good K W F' A' m' σ' H' → E.ct m' → D.ct σ' H'
theorem Conts.mono {K : PySem.W.Frag} {W F F' : Hp} {A A' : List Addr} {E : DEnds} {D : Ends} (c : Conts K W F A E D) (s : Same F F') (p : A <+: A') : Conts K W F' A' E D :=
  ⟨fun F2 A2 m σ H s2 p2 => c.nx F2 A2 m σ H (s.trans s2) (p.trans p2), fun F2 A2 m σ H v u s2 p2 => c.rt F2 A2 m σ H v u (s.trans s2) (p.trans p2),
    fun F2 A2 m σ H s2 p2 => c.bk F2 A2 m σ H (s.trans s2) (p.trans p2), fun F2 A2 m σ H s2 p2 => c.ct F2 A2 m σ H (s.trans s2) (p.trans p2)⟩
def liftS (K : PySem.W.Frag) (t : DS) : TS := fun D σ H => ∃ W F A m E, Good K W F A m σ H ∧ t E m ∧ Conts K W F A E D

theorem _root_.L2.PE.imp {X : Cx} {e : Expr} {t t' : TE} (h : PE X e t) (f : ∀ σ H Q, t' σ H Q → t σ H Q) : PE X e t' := ⟨fun pins s σ H Q I q => h.run pins s σ H Q I (f _ _ _ q)⟩
theorem _root_.L2.PT.imp {X : Cx} {e : Expr} {t t' : TT} (h : PT X e t) (f : ∀ σ H Q, t' σ H Q → t σ H Q) : PT X e t' := ⟨fun pins s σ H Q I q => h.run pins s σ H Q I (f _ _ _ q)⟩
theorem _root_.L2.PW.imp {X : Cx} {e : Expr} {t t' : TT} (h : PW X e t) (f : ∀ σ H Q, t' σ H Q → t σ H Q) : PW X e t' := ⟨fun w pins s σ H Q I q => h.run w pins s σ H Q I (f _ _ _ q)⟩
theorem _root_.L2.PA.imp {X : Cx} {e : List Expr} {t t' : TA} (h : PA X e t) (f : ∀ σ H Q, t' σ H Q → t σ H Q) : PA X e t' := ⟨fun p pins s σ H Q I q => h.run p pins s σ H Q I (f _ _ _ q)⟩
theorem _root_.L2.PS.imp {X : Cx} {e : Stmt} {t t' : TS} (h : PS X e t) (f : ∀ D σ H, t' D σ H → t D σ H) : PS X e t' := ⟨fun pins s σ H D I q => h.run pins s σ H D I (f _ _ _ q)⟩
theorem _root_.L2.PSs.imp {X : Cx} {e : List Stmt} {t t' : TS} (h : PSs X e t) (f : ∀ D σ H, t' D σ H → t D σ H) : PSs X e t' := ⟨fun pins s σ H D I q => h.run pins s σ H D I (f _ _ _ q)⟩

abbrev JE (X : Cx) (e : Expr) (t : DE) : Prop := PE X e (lift X.K t)
abbrev JT (X : Cx) (e : Expr) (t : DT) : Prop := PT X e (liftT X.K t)
abbrev JW (X : Cx) (e : Expr) (t : DT) : Prop := PW X e (liftT X.K t)
abbrev JA (X : Cx) (e : List Expr) (t : DA) : Prop := PA X e (liftA X.K t)
abbrev JS (X : Cx) (e : Stmt) (t : DS) : Prop := PS X e (liftS X.K t)
abbrev JSs (X : Cx) (e : List Stmt) (t : DS) : Prop := PSs X e (liftS X.K t)

section
variable {K : PySem.W.Frag} {W F F' : Hp} {A A' : List Addr} {m : M} {σ : L2.St} {H H' : Hp}
theorem pre_refl {α : Type} (l : List α) : l <+: l := ⟨[], List.append_nil l⟩
theorem pre_trans {α : Type} {a b c : List α} (h : a <+: b) (h' : b <+: c) : a <+: c := List.IsPrefix.trans h h'
theorem same_upd {p : Addr} {o : HO} (h : H p = none) : Same H (upd H p o) := fun b x e => by
  rw [upd_ne (ne_of_none e h)]
  exact e
theorem same_upd2 {p : Addr} {o : HO} (e : Same F H) : Same (upd F p o) (upd H p o) := fun b x q => by
  by_cases hb : b = p
  · subst hb
    rw [upd_same] at q ⊢
    exact q
  · rw [upd_ne hb] at q ⊢
    exact e _ _ q
theorem Good.laid {p : Addr} {o : HO} (G : Good K W F A m σ H) (n : H p = none) : Good K W (upd F p o) A m σ (upd H p o) := by
  have nF : F p = none := G.ext.free n
  have s : Same F (upd F p o) := same_upd nF
  refine ⟨same_upd2 G.ext, G.hid.trans (same_upd n), fun b x e => by rw [upd_ne (ne_of_none (G.hid _ _ e) n)]; exact G.dj b x e, G.slen, fun i v e => ?_, G.len, fun k xs e => ?_, G.nd, fun q hq => ?_⟩
  · obtain ⟨u, h1, h2⟩ := G.sl i v e
    exact ⟨u, h1, RepV.mono s (pre_refl _) h2⟩
  · obtain ⟨a, vs, h1, h2, h3, h4, h5⟩ := G.st k xs e
    have ne : a ≠ p := ne_of_none h2 n
    exact ⟨a, vs, h1, by rw [upd_ne ne]; exact h2, Reps.mono s h3, by rw [upd_ne ne]; exact h4, h5⟩
  · obtain ⟨t1, t2, t3⟩ := G.tb q hq
    exact ⟨tab_upd t1 n, by rw [upd_ne (tab_some t1 n)]; exact t2, t3⟩
theorem Good.own {p : Addr} {xs : List Dt} {vs : List V} (G : Good K W F A m σ H) (n : H p = none) (r : Reps K F xs vs) : Good K W F (A ++ [p]) ⟨m.sl, m.st ++ [.lst xs]⟩ σ (upd H p (.lst vs)) := by
  have pr : A <+: A ++ [p] := ⟨[p], rfl⟩
  have at_ : ∀ k, k < m.st.length → (A ++ [p])[k]? = A[k]? := fun k hk => List.getElem?_append_left (by rw [G.len]; exact hk)
  have lst_ : (A ++ [p])[m.st.length]? = some p := by rw [← G.len]; simp
  have old : ∀ k, k < m.st.length → (m.st ++ [Cell.lst xs])[k]? = m.st[k]? := fun k hk => List.getElem?_append_left hk
  have new : ∀ k c, ¬ k < m.st.length → (m.st ++ [Cell.lst xs])[k]? = some c → k = m.st.length ∧ c = .lst xs := fun k c hk e => by
    have hk2 := (List.getElem?_eq_some_iff.mp e).1
    rw [List.length_append, List.length_singleton] at hk2
    have ek : k = m.st.length := by omega
    subst ek
    rw [List.getElem?_append_right (Nat.le_refl _), Nat.sub_self] at e
    exact ⟨rfl, (Option.some.inj e).symm⟩
  refine ⟨G.ext.trans (same_upd n), G.hid.trans (same_upd n), G.dj, G.slen, fun i v e => ?_, by simp [G.len], fun k ys e => ?_, fun j k ys zs a e1 e2 h1 h2 => ?_, fun q hq => ⟨tab_upd (G.tb q hq).1 n, (G.tb q hq).2⟩⟩
  · obtain ⟨u, h1, h2⟩ := G.sl i v e
    exact ⟨u, h1, RepV.mono (Same.refl _) pr h2⟩
  · by_cases hk : k < m.st.length
    · have e' : m.st[k]? = some (.lst ys) := (old k hk).symm.trans e
      obtain ⟨a, ws, h1, h2, h3, h4⟩ := G.st k ys e'
      exact ⟨a, ws, (at_ k hk).trans h1, by rw [upd_ne (ne_of_none h2 n)]; exact h2, h3, h4⟩
    · obtain ⟨ek, ec⟩ := new k _ hk e
      subst ek
      cases ec
      exact ⟨p, vs, lst_, upd_same, r, G.ext.free n, G.hid.free n⟩
  · have nA : ∀ k zs, k < m.st.length → (m.st ++ [Cell.lst xs])[k]? = some (.lst zs) → (A ++ [p])[k]? = some p → False := fun k zs hk e h => by
      obtain ⟨a', _, q1, q2, _⟩ := G.st k zs ((old k hk).symm.trans e)
      rw [at_ k hk, q1] at h
      cases h
      rw [n] at q2
      cases q2
    by_cases hj : j < m.st.length
    · by_cases hk : k < m.st.length
      · exact G.nd j k ys zs a ((old j hj).symm.trans e1) ((old k hk).symm.trans e2) ((at_ j hj).symm.trans h1) ((at_ k hk).symm.trans h2)
      · obtain ⟨ek, _⟩ := new k _ hk e2
        subst ek
        rw [lst_] at h2
        cases h2
        exact (nA j ys hj e1 h1).elim
    · obtain ⟨ej, _⟩ := new j _ hj e1
      subst ej
      by_cases hk : k < m.st.length
      · rw [lst_] at h1
        cases h1
        exact (nA k zs hk e2 h2).elim
      · obtain ⟨ek, _⟩ := new k _ hk e2
        exact ek.symm
theorem Good.store {i : Nat} {v : Vl} {u : V} (G : Good K W F A m σ H) (r : RepV K F A v u) : Good K W F A ⟨m.sl.set i (some v), m.st⟩ (σ.set i (some u)) H := by
  refine ⟨G.ext, G.hid, G.dj, by rw [List.length_set, List.length_set, G.slen], fun j w e => ?_, G.len, G.st, G.nd, G.tb⟩
  have e' : (m.sl.set i (some v))[j]? = some (some w) := e
  rw [List.getElem?_set] at e' ⊢
  by_cases hj : i = j
  · rw [if_pos hj] at e' ⊢
    by_cases hl : i < m.sl.length
    · rw [if_pos hl] at e'
      rw [if_pos (by rw [← G.slen]; exact hl)]
      cases e'
      exact ⟨u, rfl, r⟩
    · rw [if_neg hl] at e'
      cases e'
  · rw [if_neg hj] at e' ⊢
    exact G.sl j w e'
theorem Good.write {k : Nat} {xs ys : List Dt} {a : Addr} {ws : List V} (G : Good K W F A m σ H) (e : m.st[k]? = some (.lst xs)) (ha : A[k]? = some a) (r : Reps K F ys ws) :
    Good K W F A ⟨m.sl, m.st.set k (.lst ys)⟩ σ (upd H a (.lst ws)) := by
  obtain ⟨a', vs, h1, h2, h3, h4, h5⟩ := G.st k xs e
  rw [ha] at h1
  cases h1
  have hk : k < m.st.length := (List.getElem?_eq_some_iff.mp e).1
  have sp : ∀ j c, (m.st.set k (Cell.lst ys))[j]? = some c → (j = k ∧ c = .lst ys) ∨ (j ≠ k ∧ m.st[j]? = some c) := fun j c q => by
    rw [List.getElem?_set] at q
    by_cases hj : k = j
    · rw [if_pos hj, if_pos hk] at q
      exact .inl ⟨hj.symm, (Option.some.inj q).symm⟩
    · rw [if_neg hj] at q
      exact .inr ⟨fun z => hj z.symm, q⟩
  refine ⟨fun b x q => ?_, fun b x q => ?_, G.dj, G.slen, G.sl, by rw [List.length_set]; exact G.len, fun j zs q => ?_, fun i j zs ts b q1 q2 p1 p2 => ?_, fun q hq => ⟨tab_lst (G.tb q hq).1 h2, (G.tb q hq).2⟩⟩
  · have nb : b ≠ a := fun z => by
      rw [z, h4] at q
      cases q
    rw [upd_ne nb]
    exact G.ext _ _ q
  · have nb : b ≠ a := fun z => by
      rw [z, h5] at q
      cases q
    rw [upd_ne nb]
    exact G.hid _ _ q
  · rcases sp j _ q with ⟨rfl, ec⟩ | ⟨hj, q'⟩
    · cases ec
      exact ⟨a, ws, ha, upd_same, r, h4, h5⟩
    · obtain ⟨b, us, p1, p2, p3, p4⟩ := G.st j zs q'
      have nb : b ≠ a := fun z => hj (G.nd j k zs xs a q' e (by rw [← z]; exact p1) ha)
      exact ⟨b, us, p1, by rw [upd_ne nb]; exact p2, p3, p4⟩
  · have i' : ∃ zs', m.st[i]? = some (.lst zs') := by
      rcases sp i _ q1 with ⟨rfl, _⟩ | ⟨_, q'⟩
      · exact ⟨_, e⟩
      · exact ⟨_, q'⟩
    have j' : ∃ zs', m.st[j]? = some (.lst zs') := by
      rcases sp j _ q2 with ⟨rfl, _⟩ | ⟨_, q'⟩
      · exact ⟨_, e⟩
      · exact ⟨_, q'⟩
    obtain ⟨z1, i'⟩ := i'
    obtain ⟨z2, j'⟩ := j'
    exact G.nd i j z1 z2 b i' j' p1 p2
def frz (k : Nat) (xs : List Dt) (m : M) : M := ⟨m.sl.map fun o => match o with
  | some (.c j) => if j = k then some (.d (.lst xs)) else some (.c j)
  | o => o, m.st.set k .dead⟩
theorem Good.freeze {k : Nat} {xs : List Dt} (G : Good K W F A m σ H) (e : m.st[k]? = some (.lst xs)) : ∃ F' a, Same F F' ∧ A[k]? = some a ∧ Rep K F' (.lst xs) (.ref a) ∧ Good K W F' A (frz k xs m) σ H := by
  obtain ⟨a, vs, h1, h2, h3, h4, h5⟩ := G.st k xs e
  have s : Same F (upd F a (.lst vs)) := same_upd h4
  have hk : k < m.st.length := (List.getElem?_eq_some_iff.mp e).1
  have rp : Rep K (upd F a (.lst vs)) (.lst xs) (.ref a) := by
    simp only [Rep]
    exact ⟨a, vs, rfl, Rd.of upd_same, Reps.mono s h3⟩
  have sp : ∀ j zs, (m.st.set k Cell.dead)[j]? = some (.lst zs) → j ≠ k ∧ m.st[j]? = some (.lst zs) := fun j c q => by
    rw [List.getElem?_set] at q
    by_cases hj : k = j
    · rw [if_pos hj, if_pos hk] at q
      cases q
    · rw [if_neg hj] at q
      exact ⟨fun z => hj z.symm, q⟩
  refine ⟨upd F a (.lst vs), a, s, h1, rp, ⟨fun b x q => ?_, G.hid, fun b x q => by rw [upd_ne (fun z => by rw [z, h5] at q; cases q)]; exact G.dj b x q, by unfold frz; rw [List.length_map]; exact G.slen, fun i v q => ?_, by unfold frz; rw [List.length_set]; exact G.len, fun j zs q => ?_, fun i j zs ts b q1 q2 p1 p2 => ?_, fun q hq => ⟨(G.tb q hq).1, by rw [upd_ne (tab_ne (G.tb q hq).1 h2)]; exact (G.tb q hq).2.1, (G.tb q hq).2.2⟩⟩⟩
  · by_cases hb : b = a
    · subst hb
      rw [upd_same] at q
      cases q
      exact h2
    · rw [upd_ne hb] at q
      exact G.ext _ _ q
  · unfold frz at q
    rw [List.getElem?_map] at q
    cases r : m.sl[i]? with
    | none =>
      rw [r] at q
      cases q
    | some o =>
      rw [r] at q
      cases o with
      | none => cases q
      | some w =>
        obtain ⟨u, p1, p2⟩ := G.sl i w r
        cases w with
        | d x =>
          cases q
          exact ⟨u, p1, Rep.mono s p2⟩
        | c j =>
          by_cases hj : j = k
          · subst hj
            have q' : some (some (if j = j then Vl.d (.lst xs) else .c j)) = some (some v) := by
              rw [if_pos rfl]
              simpa using q
            rw [if_pos rfl] at q'
            cases q'
            obtain ⟨b, p3, rfl⟩ := p2
            rw [h1] at p3
            cases p3
            exact ⟨_, p1, rp⟩
          · have q' : v = .c j := by
              have : (if j = k then some (Vl.d (.lst xs)) else some (.c j)) = some v := Option.some.inj q
              rw [if_neg hj] at this
              exact (Option.some.inj this).symm
            subst q'
            exact ⟨u, p1, p2⟩
  · obtain ⟨hj, q'⟩ := sp j zs q
    obtain ⟨b, us, p1, p2, p3, p4⟩ := G.st j zs q'
    have nb : b ≠ a := fun z => hj (G.nd j k zs xs a q' e (by rw [← z]; exact p1) h1)
    exact ⟨b, us, p1, p2, Reps.mono s p3, by rw [upd_ne nb]; exact p4.1, p4.2⟩
  · obtain ⟨_, q1'⟩ := sp i zs q1
    obtain ⟨_, q2'⟩ := sp j ts q2
    exact G.nd i j zs ts b q1' q2' p1 p2
def view (m : M) : Vl → Option Dt
  | .d x => some x
  | .c k => match m.st[k]? with
    | some (.lst xs) => some (.lst xs)
    | _ => none
def RepB (K : PySem.W.Frag) (F H : Hp) : Dt → V → Prop
  | .lst ds, u => ∃ a vs, u = .ref a ∧ Rd H a (.lst vs) ∧ Reps K F ds vs
  | x, u => Rep K F x u
theorem Good.view {v : Vl} {u : V} {x : Dt} (G : Good K W F A m σ H) (r : RepV K F A v u) (e : view m v = some x) : RepB K F H x u := by
  cases v with
  | d y =>
    cases e
    cases x with
    | lst ds =>
      have r' : Rep K F (.lst ds) u := r
      simp only [Rep] at r'
      obtain ⟨a, vs, e1, s, q⟩ := r'
      exact ⟨a, vs, e1, rd_mono G.ext s, q⟩
    | _ => exact r
  | c k =>
    obtain ⟨a, h1, rfl⟩ := r
    unfold RT.view at e
    cases q : m.st[k]? with
    | none =>
      simp only [q] at e
      cases e
    | some c =>
      cases c with
      | dead =>
        simp only [q] at e
        cases e
      | lst xs =>
        simp only [q] at e
        cases e
        obtain ⟨a', vs, h1', h2, h3, _⟩ := G.st k xs q
        rw [h1] at h1'
        cases h1'
        exact ⟨a, vs, rfl, Rd.of h2, h3⟩
end
end RT

set_option maxRecDepth 100000
set_option maxHeartbeats 4000000
namespace RT
open PySem PySem.Spec PyProof.Rows L2

def onV (m : M) (v : Vl) (k : Dt → Prop) : Prop := match view m v with
  | some x => k x
  | none => False
theorem onV_elim {m : M} {v : Vl} {k : Dt → Prop} (h : onV m v k) : ∃ x, view m v = some x ∧ k x := by
  unfold onV at h
  split at h
  · exact ⟨_, by assumption, h⟩
  · exact h.elim
def onD (v : Vl) (k : Dt → Prop) : Prop := match v with
  | .d x => k x
  | .c _ => False
theorem onD_elim {v : Vl} {k : Dt → Prop} (h : onD v k) : ∃ x, v = .d x ∧ k x := by
  cases v with
  | d x => exact ⟨x, rfl, h⟩
  | c k => exact h.elim

def onC (st : List Cell) (k : Nat) (P : List Dt → Prop) : Prop := match st[k]? with
  | some (.lst xs) => P xs
  | _ => False
theorem onC_elim {st : List Cell} {k : Nat} {P : List Dt → Prop} (h : onC st k P) : ∃ xs, st[k]? = some (.lst xs) ∧ P xs := by
  unfold onC at h
  split at h
  · exact ⟨_, by assumption, h⟩
  · exact h.elim
theorem onC_mk {st : List Cell} {k : Nat} {P : List Dt → Prop} {xs : List Dt} (e : st[k]? = some (.lst xs)) (h : P xs) : onC st k P := by
  unfold onC
  rw [e]
  exact h
section
variable {X : Cx}

def dVar (i : Nat) : DE := fun m Q => match m.sl[i]? with
  | some (some v) => Q v m
  | _ => False
theorem dVar_elim {i : Nat} {m : M} {Q : Vl → M → Prop} (h : dVar i m Q) : ∃ v, m.sl[i]? = some (some v) ∧ Q v m := by
  unfold dVar at h
  split at h
  · exact ⟨_, by assumption, h⟩
  · exact h.elim
theorem je_var (i : Nat) {x : Str} {pos : Pos} (hN : X.N[i]? = some x := by rfl) (hv : Vis X.env.scope x := by first | exact Or.inl rfl | exact Or.inr (Or.inl rfl) | exact Or.inr (Or.inr rfl)) (hd : (x == ("__debug__" : Str)) = false := by decide)
    (hcd : (x == ("__classdict__" : Str)) = false := by decide) : JE X (.Name x pos) (dVar i) :=
  (pv i hN hv hd hcd).imp fun σ H Q ⟨W, F, A, m, Qd, G, h, c⟩ => by
    obtain ⟨v, e, q⟩ := dVar_elim h
    obtain ⟨u, e', r⟩ := G.sl i v e
    exact ⟨u, e', c F A v m H (Same.refl _) (pre_refl _) G q u r⟩
def dFz (i : Nat) : DE := fun m Q => match m.sl[i]? with
  | some (some (.d x)) => Q (.d x) m
  | some (some (.c k)) => onC m.st k fun xs => Q (.d (.lst xs)) (frz k xs m)
  | _ => False
theorem je_fz (i : Nat) {x : Str} {pos : Pos} (hN : X.N[i]? = some x := by rfl) (hv : Vis X.env.scope x := by first | exact Or.inl rfl | exact Or.inr (Or.inl rfl) | exact Or.inr (Or.inr rfl)) (hd : (x == ("__debug__" : Str)) = false := by decide)
    (hcd : (x == ("__classdict__" : Str)) = false := by decide) : JE X (.Name x pos) (dFz i) :=
  (pv i hN hv hd hcd).imp fun σ H Q ⟨W, F, A, m, Qd, G, h, c⟩ => by
    unfold dFz at h
    split at h
    · rename_i x e
      obtain ⟨u, e', r⟩ := G.sl i _ e
      exact ⟨u, e', c F A _ m H (Same.refl _) (pre_refl _) G h u r⟩
    · rename_i k e
      obtain ⟨xs, es, h⟩ := onC_elim h
      obtain ⟨u, e', r⟩ := G.sl i _ e
      obtain ⟨F', a, s, ha, rp, G'⟩ := G.freeze es
      obtain ⟨b, hb, rfl⟩ := r
      rw [ha] at hb
      cases hb
      exact ⟨_, e', c F' A _ _ H s (pre_refl _) G' h _ rp⟩
    · exact h.elim

def dC (x : Dt) : DE := fun m Q => Q (.d x) m
theorem lift_c {K : PySem.W.Frag} {x : Dt} {v : V} (r : ∀ F, Rep K F x v) {σ : L2.St} {H : Hp} {Q : VK} (h : lift K (dC x) σ H Q) : tC v σ H Q := by
  obtain ⟨W, F, A, m, Qd, G, h, c⟩ := h
  exact c F A _ m H (Same.refl _) (pre_refl _) G h v (r F)
theorem rep_int {K : PySem.W.Frag} {F : Hp} {i : Int} : Rep K F (.int i) (.int i) := by simp only [Rep]
theorem rep_bl {K : PySem.W.Frag} {F : Hp} {b : Bool} : Rep K F (.bl b) (.bl b) := by simp only [Rep]
theorem rep_non {K : PySem.W.Frag} {F : Hp} : Rep K F .non .non := by simp only [Rep]
theorem rep_str {K : PySem.W.Frag} {F : Hp} {s : Str} : Rep K F (.str s) (.str s) := by simp only [Rep]
theorem je_int {i j pos} : JE X (.Constant (.int i) j pos) (dC (.int i)) := pe_int.imp fun _ _ _ h => lift_c (fun _ => rep_int) h
theorem je_bl {b j pos} : JE X (.Constant (.bool b) j pos) (dC (.bl b)) := pe_bl.imp fun _ _ _ h => lift_c (fun _ => rep_bl) h
theorem je_non {j pos} : JE X (.Constant .none j pos) (dC .non) := pe_non.imp fun _ _ _ h => lift_c (fun _ => rep_non) h
theorem je_str {x j pos} : JE X (.Constant (.str x) j pos) (dC (.str x)) := pe_str.imp fun _ _ _ h => lift_c (fun _ => rep_str) h
structure GlobD (X : Cx) (x : Str) (d : Dt) : Prop where
  gl : Gl X x
  val : ∃ (v : V) (u : Value), X.mg x = some u ∧ RelV v u ∧ ∀ F, Rep X.K F d v
  nd : (x == ("__debug__" : Str)) = false
theorem je_glob {x : Str} {d : Dt} {pos : Pos} (g : GlobD X x d) : JE X (.Name x pos) (dC d) := by
  obtain ⟨hg, ⟨v, u, hm, r, rp⟩, nd⟩ := g
  exact (pe_glob hg hm r nd).imp fun _ _ _ h => lift_c rp h

abbrev DR2 := Dt → Dt → (Dt → Prop) → Prop
def dOp (r : DR2) (ta tb : DE) : DE := fun m Q => ta m fun v m1 => tb m1 fun w m2 => onV m2 v fun x => onV m2 w fun y => r x y fun z => Q (.d z) m2
def ValD (K : PySem.W.Frag) (R : V → V → Hp → VK → Prop) (r : DR2) : Prop :=
  ∀ (W F : Hp) (A : List Addr) (m : M) (σ : L2.St) (H : Hp) (x y : Dt) (u v : V) (P : Dt → Prop) (Q : VK), Good K W F A m σ H → RepB K F H x u → RepB K F H y v → r x y P →
    (∀ F' H' z w, Same F F' → Good K W F' A m σ H' → Rep K F' z w → P z → Q w H') → R u v H Q
def OpD (X : Cx) (f : Value → Value → Sem Value) (r : DR2) : Prop := ∃ R : R2, OpR X f R ∧ ValD X.K R r
theorem lift_op {K : PySem.W.Frag} {R : R2} {r : DR2} {ta tb : DE} (hR : ValD K R r) {σ : L2.St} {H : Hp} {Q : VK} (h : lift K (dOp r ta tb) σ H Q) : tOp R (lift K ta) (lift K tb) σ H Q := by
  obtain ⟨W, F, A, m, Qd, G, h, c⟩ := h
  refine ⟨W, F, A, m, _, G, h, fun F1 A1 v m1 H1 s1 p1 G1 q1 u r1 => ⟨W, F1, A1, m1, _, G1, q1, fun F2 A2 w m2 H2 s2 p2 G2 q2 u2 r2 => ?_⟩⟩
  obtain ⟨x, ex, q2⟩ := onV_elim q2
  obtain ⟨y, ey, q2⟩ := onV_elim q2
  exact hR W F2 A2 m2 σ H2 x y u u2 _ Q G2 (G2.view (RepV.mono s2 p2 r1) ex) (G2.view r2 ey) q2 fun F' H' z w s' G' rz pz => c F' A2 (.d z) m2 H' (s1.trans (s2.trans s')) (pre_trans p1 p2) G' pz w rz
theorem je_op {a b : Expr} {ta tb : DE} {op : Operator} {r : DR2} {pos : Pos} (ho : OpD X (binaryOp op) r) (ha : JE X a ta) (hb : JE X b tb) : JE X (.BinOp a op b pos) (dOp r ta tb) := by
  obtain ⟨R, hO, hR⟩ := ho
  exact (pe_op hO ha hb).imp fun _ _ _ h => lift_op hR h
theorem je_cmp {a b : Expr} {ta tb : DE} {op : CmpOp} {r : DR2} {pos : Pos} (ho : OpD X (compareOp op) r) (ha : JE X a ta) (hb : JE X b tb) (hm : behindInMarks op b = false) : JE X (.Compare a [op] [b] pos) (dOp r ta tb) := by
  obtain ⟨R, hO, hR⟩ := ho
  exact (pe_cmpR hO ha hb hm).imp fun _ _ _ h => lift_op hR h

def dTest (t : DE) : DT := fun m Q => t m fun v m1 => match v with
  | .d (.bl b) => Q b m1
  | _ => False
theorem dTest_elim {v : Vl} {k : Bool → Prop} (h : match v with
  | .d (.bl b) => k b
  | _ => False) : ∃ b, v = .d (.bl b) ∧ k b := by
  split at h
  · exact ⟨_, rfl, h⟩
  · exact h.elim
theorem jt_cmp {a b : Expr} {ta tb : DE} {op : CmpOp} {r : DR2} {pos : Pos} (ho : OpD X (compareOp op) r) (ha : JE X a ta) (hb : JE X b tb) (hm : behindInMarks op b = false) : JT X (.Compare a [op] [b] pos) (dTest (dOp r ta tb)) := by
  obtain ⟨R, hO, hR⟩ := ho
  refine (pt_cmpR hO ha hb hm).imp fun σ H Q h => ?_
  obtain ⟨W, F, A, m, Qd, G, h, c⟩ := h
  refine lift_op hR ⟨W, F, A, m, _, G, h, fun F1 A1 v m1 H1 s1 p1 G1 q1 u r1 => ?_⟩
  obtain ⟨k, rfl, q⟩ := dTest_elim q1
  have r1' : Rep X.K F1 (.bl k) u := r1
  simp only [Rep] at r1'
  exact ⟨k, r1', c F1 A1 k m1 H1 s1 p1 G1 q⟩

def rInt (C : Int → Int → Prop) (g : Int → Int → Dt) : DR2 := fun x y P => match x, y with
  | .int i, .int j => C i j ∧ P (g i j)
  | _, _ => False
theorem rInt_elim {C : Int → Int → Prop} {g : Int → Int → Dt} {x y : Dt} {P : Dt → Prop} (h : rInt C g x y P) : ∃ i j, x = .int i ∧ y = .int j ∧ C i j ∧ P (g i j) := by
  unfold rInt at h
  split at h
  · exact ⟨_, _, rfl, rfl, h⟩
  · exact h.elim
theorem repB_int {K : PySem.W.Frag} {F H : Hp} {i : Int} {u : V} (h : RepB K F H (.int i) u) : u = .int i := by
  have h' : Rep K F (.int i) u := h
  simpa only [Rep] using h'
theorem repB_str {K : PySem.W.Frag} {F H : Hp} {i : Str} {u : V} (h : RepB K F H (.str i) u) : u = .str i := by
  have h' : Rep K F (.str i) u := h
  simpa only [Rep] using h'
theorem repB_bl {K : PySem.W.Frag} {F H : Hp} {i : Bool} {u : V} (h : RepB K F H (.bl i) u) : u = .bl i := by
  have h' : Rep K F (.bl i) u := h
  simpa only [Rep] using h'
theorem repB_non {K : PySem.W.Frag} {F H : Hp} {u : V} (h : RepB K F H .non u) : u = .non := by
  have h' : Rep K F .non u := h
  simpa only [Rep] using h'
theorem opD_int {f : Value → Value → Sem Value} {C : Int → Int → Prop} {g : Int → Int → V} {gd : Int → Int → Dt} (h : OpR X f (rI C g)) (hg : ∀ F i j, Rep X.K F (gd i j) (g i j)) : OpD X f (rInt C gd) :=
  ⟨_, h, fun W F A m σ H x y u v P Q G rx ry q c => by
    obtain ⟨i, j, rfl, rfl, hc, q⟩ := rInt_elim q
    exact ⟨i, j, repB_int rx, repB_int ry, hc, c F H _ _ (Same.refl _) G (hg F i j) q⟩⟩
theorem opD_int0 {f : Value → Value → Sem Value} {g : Int → Int → V} {gd : Int → Int → Dt} (h : OpR X f (rI0 g)) (hg : ∀ F i j, Rep X.K F (gd i j) (g i j)) : OpD X f (rInt (fun _ _ => True) gd) :=
  ⟨_, h, fun W F A m σ H x y u v P Q G rx ry q c => by
    obtain ⟨i, j, rfl, rfl, hc, q⟩ := rInt_elim q
    exact ⟨i, j, repB_int rx, repB_int ry, c F H _ _ (Same.refl _) G (hg F i j) q⟩⟩
theorem o_sub : OpD X (binaryOp .Sub) (rInt (fun _ _ => True) fun i j => .int (i - j)) := opD_int0 op_sub fun _ _ _ => rep_int
def MulOk (i j : Int) : Prop := i.natAbs.log2 + j.natAbs.log2 < 67108864
theorem MulOk.ok {i j : Int} (h : MulOk i j) : IntMulOk i j := by
  have b : ∀ x : Int, Builtin.Int.intBits x ≤ x.natAbs.log2 + 1 := fun x => by
    unfold Builtin.Int.intBits
    split <;> omega
  have h1 := b i
  have h2 := b j
  have h3 : i.natAbs.log2 + j.natAbs.log2 < 67108864 := h
  have e : bitsLine = 134217728 := by decide
  unfold IntMulOk
  intro z
  rw [Bool.and_eq_true] at z
  have z2 := z.2
  unfold Builtin.Int.intTooBig at z2
  have z3 := of_decide_eq_true z2
  rw [e] at z3
  omega
theorem o_mul : OpD X (binaryOp .Mult) (rInt MulOk fun i j => .int (i * j)) := opD_int (C := MulOk) (opI fun _ _ _ _ _ _ _ hc q => mul_int q hc.ok) fun _ _ _ => rep_int
theorem o_mod : OpD X (binaryOp .Mod) (rInt (fun _ j => j ≠ 0) fun i j => .int (i.fmod j)) := opD_int op_modN fun _ _ _ => rep_int
theorem o_pow : OpD X (binaryOp .Pow) (rInt CPow fun i j => .int (i ^ j.toNat)) := opD_int op_pow fun _ _ _ => rep_int
theorem o_lt : OpD X (compareOp .Lt) (rInt (fun _ _ => True) fun i j => .bl (decide (i < j))) := opD_int0 op_lt fun _ _ _ => rep_bl
theorem o_le : OpD X (compareOp .LtE) (rInt (fun _ _ => True) fun i j => .bl (decide (i ≤ j))) := opD_int0 op_le fun _ _ _ => rep_bl
theorem o_gt : OpD X (compareOp .Gt) (rInt (fun _ _ => True) fun i j => .bl (decide (j < i))) := opD_int0 op_gt fun _ _ _ => rep_bl
theorem o_ge : OpD X (compareOp .GtE) (rInt (fun _ _ => True) fun i j => .bl (decide (j ≤ i))) := opD_int0 op_ge fun _ _ _ => rep_bl
end
end RT

set_option maxRecDepth 100000
set_option maxHeartbeats 4000000
namespace RT
open PySem PySem.Spec PyProof.Rows L2
section
variable {X : Cx}

theorem rv_int {K : PySem.W.Frag} {F : Hp} {A : List Addr} {i : Int} : RepV K F A (.d (.int i)) (.int i) := rep_int (K := K) (F := F)
theorem rv_bl {K : PySem.W.Frag} {F : Hp} {A : List Addr} {b : Bool} : RepV K F A (.d (.bl b)) (.bl b) := rep_bl (K := K) (F := F)
theorem rv_non {K : PySem.W.Frag} {F : Hp} {A : List Addr} : RepV K F A (.d .non) .non := rep_non (K := K) (F := F)

def Pyl (X : Cx) : Prop := ∀ s : Shared, (∀ b o, X.base.get? b = some o → s.heap.get? b = some o) → PySem.PylongRoom (model X.prog X.w) X.A s
def rFdiv : R2 := rI (fun _ j => j ≠ 0) fun i j => .int (i.fdiv j)
theorem op_fdivA (hp : Pyl X) : OpR X (binaryOp .FloorDiv) rFdiv := by
  intro pins s σ H x y v u Q I rx ry h
  obtain ⟨i, j, rfl, rfl, hc, q⟩ := h
  obtain ⟨t, rfl⟩ := rx
  obtain ⟨t', rfl⟩ := ry
  exact floordiv_int hc ⟨.int _, H, I.tok _, ⟨_, rfl⟩, q⟩ (.inr (hp s I.bk))
theorem o_fdiv (hp : Pyl X) : OpD X (binaryOp .FloorDiv) (rInt (fun _ j => j ≠ 0) fun i j => .int (i.fdiv j)) := opD_int (op_fdivA hp) fun _ _ _ => rep_int

def rU (f : Dt → (Dt → Prop) → Prop) (t : DE) : DE := fun m Q => t m fun v m1 => onD v fun x => f x fun z => Q (.d z) m1
def rNeg : Dt → (Dt → Prop) → Prop := fun x P => match x with
  | .int i => P (.int (-i))
  | _ => False
theorem je_neg {a : Expr} {ta : DE} {pos : Pos} (ha : JE X a ta) : JE X (.UnaryOp .USub a pos) (rU rNeg ta) := by
  refine (pe_un un_neg ha).imp fun σ H Q h => ?_
  obtain ⟨W, F, A, m, Qd, G, h, c⟩ := h
  refine ⟨W, F, A, m, _, G, h, fun F1 A1 v m1 H1 s1 p1 G1 q1 u r1 => ?_⟩
  obtain ⟨x, rfl, q⟩ := onD_elim q1
  cases x with
  | int i =>
    have e : u = .int i := repB_int (H := H1) r1
    exact ⟨i, e, c F1 A1 _ m1 H1 s1 p1 G1 q _ rv_int⟩
  | _ => exact (show False from q).elim

theorem repB_tup {K : PySem.W.Frag} {F H : Hp} {ds : List Dt} {u : V} (h : RepB K F H (.tup ds) u) : ∃ a vs, u = .ref a ∧ SqT K F a vs ∧ Reps K F ds vs := by
  have h' : Rep K F (.tup ds) u := h
  simpa only [Rep] using h'

def truD : Dt → (Bool → Prop) → Prop := fun x P => match x with
  | .non => P false
  | .bl b => P b
  | .int i => P (i != 0)
  | .str y => y.length ≤ sizeLine ∧ P ((y.length : Int) != 0)
  | .lst xs => P (!xs.isEmpty)
  | .tup xs => P (!xs.isEmpty)
def dTru (t : DE) : DT := fun m Q => t m fun v m1 => onV m1 v fun x => truD x fun b => Q b m1
theorem empty_eq {K : PySem.W.Frag} {F : Hp} {ds : List Dt} {vs : List V} (r : Reps K F ds vs) : ds.isEmpty = vs.isEmpty := by
  have e := r.length
  cases ds <;> cases vs <;> first | rfl | (simp at e)
theorem jt_tru {a : Expr} {ta : DE} (ha : JE X a ta) (he : ∀ whole, isTrue a X.env whole = (do let v ← whole; standAt a.pos; holding [v] (truthy v)) := by intro _; rfl) : JT X a (dTru ta) := by
  refine (pt_truth ha he).imp fun σ H Q h => ?_
  obtain ⟨W, F, A, m, Qd, G, h, c⟩ := h
  refine ⟨W, F, A, m, _, G, h, fun F1 A1 v m1 H1 s1 p1 G1 q1 u r1 => ?_⟩
  obtain ⟨x, ex, q⟩ := onV_elim q1
  have rb := G1.view r1 ex
  cases x with
  | non =>
    rw [repB_non rb]
    exact ⟨false, rfl, c F1 A1 _ m1 H1 s1 p1 G1 q⟩
  | bl b =>
    rw [repB_bl rb]
    exact ⟨b, rfl, c F1 A1 _ m1 H1 s1 p1 G1 q⟩
  | int i =>
    rw [repB_int rb]
    exact ⟨_, rfl, c F1 A1 _ m1 H1 s1 p1 G1 q⟩
  | str y =>
    rw [repB_str rb]
    exact ⟨_, ⟨q.1, rfl⟩, c F1 A1 _ m1 H1 s1 p1 G1 q.2⟩
  | lst xs =>
    obtain ⟨a, vs, rfl, hs, rs⟩ := rb
    have q' : Qd (!xs.isEmpty) m1 := q
    rw [empty_eq rs] at q'
    exact ⟨_, .inl ⟨vs, .inl hs, rfl⟩, c F1 A1 _ m1 H1 s1 p1 G1 q'⟩
  | tup xs =>
    obtain ⟨a, vs, rfl, hs, rs⟩ := repB_tup rb
    have hs := seqT_mono G1.ext hs
    have q' : Qd (!xs.isEmpty) m1 := q
    rw [empty_eq rs] at q'
    exact ⟨_, .inr (.inl ⟨vs, hs, rfl⟩), c F1 A1 _ m1 H1 s1 p1 G1 q'⟩
def dAnd (t u : DT) : DT := fun m Q => t m fun b m1 => if b = true then u m1 Q else Q false m1
def dOr (t u : DT) : DT := fun m Q => t m fun b m1 => if b = true then Q true m1 else u m1 Q
def dNot (t : DT) : DT := fun m Q => t m fun b m1 => Q (!b) m1
variable {a b : Expr} {rest : List Expr} {pos : Pos} {t u : DT} {ta tb : DE}
theorem jw_and1 (h : JT X a t) : JW X (.BoolOp .And [a] pos) t := pw_and1 h
theorem jw_or1 (h : JT X a t) : JW X (.BoolOp .Or [a] pos) t := pw_or1 h
theorem jw_and (h : JT X a t) (h' : JW X (.BoolOp .And (b :: rest) pos) u) : JW X (.BoolOp .And (a :: b :: rest) pos) (dAnd t u) := by
  refine (pw_and h h').imp fun σ H Q hh => ?_
  obtain ⟨W, F, A, m, Qd, G, h, c⟩ := hh
  refine ⟨W, F, A, m, _, G, h, fun F1 A1 v m1 H1 s1 p1 G1 q1 => ?_⟩
  cases v with
  | true => exact ⟨W, F1, A1, m1, _, G1, q1, fun F2 A2 w m2 H2 s2 p2 G2 q2 => c F2 A2 w m2 H2 (s1.trans s2) (pre_trans p1 p2) G2 q2⟩
  | false => exact c F1 A1 false m1 H1 s1 p1 G1 q1
theorem jw_or (h : JT X a t) (h' : JW X (.BoolOp .Or (b :: rest) pos) u) : JW X (.BoolOp .Or (a :: b :: rest) pos) (dOr t u) := by
  refine (pw_or h h').imp fun σ H Q hh => ?_
  obtain ⟨W, F, A, m, Qd, G, h, c⟩ := hh
  refine ⟨W, F, A, m, _, G, h, fun F1 A1 v m1 H1 s1 p1 G1 q1 => ?_⟩
  cases v with
  | true => exact c F1 A1 true m1 H1 s1 p1 G1 q1
  | false => exact ⟨W, F1, A1, m1, _, G1, q1, fun F2 A2 w m2 H2 s2 p2 G2 q2 => c F2 A2 w m2 H2 (s1.trans s2) (pre_trans p1 p2) G2 q2⟩
theorem jw_pt {e : Expr} (h : JW X e t) : JT X e t := PW.pt h
theorem jt_not (h : JT X a t) : JT X (.UnaryOp .Not a pos) (dNot t) := by
  refine (pt_not h).imp fun σ H Q hh => ?_
  obtain ⟨W, F, A, m, Qd, G, h, c⟩ := hh
  exact ⟨W, F, A, m, _, G, h, fun F1 A1 v m1 H1 s1 p1 G1 q1 => c F1 A1 _ m1 H1 s1 p1 G1 q1⟩

def dAndV (t u : DE) : DE := fun m Q => t m fun v m1 => match v with
  | .d (.bl b) => if b = true then u m1 Q else Q (.d (.bl false)) m1
  | _ => False
def dNotV (t : DE) : DE := fun m Q => t m fun v m1 => match v with
  | .d (.bl b) => Q (.d (.bl (!b))) m1
  | _ => False
theorem je_one {op} (h : JE X a ta) : JE X (.BoolOp op [a] pos) ta := pe_one h
theorem je_and (h : JE X a ta) (h' : JE X (.BoolOp .And (b :: rest) pos) tb) : JE X (.BoolOp .And (a :: b :: rest) pos) (dAndV ta tb) := by
  refine (pe_and h h').imp fun σ H Q hh => ?_
  obtain ⟨W, F, A, m, Qd, G, h, c⟩ := hh
  refine ⟨W, F, A, m, _, G, h, fun F1 A1 v m1 H1 s1 p1 G1 q1 u r1 => ?_⟩
  obtain ⟨b, rfl, q⟩ := dTest_elim q1
  rw [repB_bl (H := H1) r1]
  refine ⟨b, rfl, ?_⟩
  cases b with
  | true => exact ⟨W, F1, A1, m1, _, G1, q, fun F2 A2 w m2 H2 s2 p2 G2 q2 => c F2 A2 w m2 H2 (s1.trans s2) (pre_trans p1 p2) G2 q2⟩
  | false => exact c F1 A1 _ m1 H1 s1 p1 G1 q _ rv_bl
theorem je_notV (h : JE X a ta) : JE X (.UnaryOp .Not a pos) (dNotV ta) := by
  refine (pe_not h).imp fun σ H Q hh => ?_
  obtain ⟨W, F, A, m, Qd, G, h, c⟩ := hh
  refine ⟨W, F, A, m, _, G, h, fun F1 A1 v m1 H1 s1 p1 G1 q1 u r1 => ?_⟩
  obtain ⟨b, rfl, q⟩ := dTest_elim q1
  rw [repB_bl (H := H1) r1]
  exact ⟨b, rfl, c F1 A1 _ m1 H1 s1 p1 G1 q _ rv_bl⟩

def isN : Dt → Bool
  | .non => true
  | _ => false
theorem isN_of {K : PySem.W.Frag} {F : Hp} {x : Dt} {u : V} (r : Rep K F x u) : decide (u = .non) = isN x := by
  cases x with
  | non =>
    simp only [Rep] at r
    rw [r]
    rfl
  | tup ds =>
    simp only [Rep] at r
    obtain ⟨a, vs, rfl, _⟩ := r
    rfl
  | lst ds =>
    simp only [Rep] at r
    obtain ⟨a, vs, rfl, _⟩ := r
    rfl
  | _ =>
    simp only [Rep] at r
    rw [r]
    rfl
def dIsN (t : DE) : DE := fun m Q => t m fun v m1 => onD v fun x => Q (.d (.bl (isN x))) m1
def dNotN (t : DE) : DE := fun m Q => t m fun v m1 => onD v fun x => Q (.d (.bl (!isN x))) m1
theorem lift_isN {σ : L2.St} {H : Hp} {Q : VK} (h : lift X.K (dIsN ta) σ H Q) : tIsN (lift X.K ta) σ H Q := by
  obtain ⟨W, F, A, m, Qd, G, h, c⟩ := h
  refine ⟨W, F, A, m, _, G, h, fun F1 A1 v m1 H1 s1 p1 G1 q1 u r1 => ?_⟩
  obtain ⟨x, rfl, q⟩ := onD_elim q1
  rw [isN_of r1]
  exact c F1 A1 _ m1 H1 s1 p1 G1 q _ rv_bl
theorem lift_notN {σ : L2.St} {H : Hp} {Q : VK} (h : lift X.K (dNotN ta) σ H Q) : tNotN (lift X.K ta) σ H Q := by
  obtain ⟨W, F, A, m, Qd, G, h, c⟩ := h
  refine ⟨W, F, A, m, _, G, h, fun F1 A1 v m1 H1 s1 p1 G1 q1 u r1 => ?_⟩
  obtain ⟨x, rfl, q⟩ := onD_elim q1
  rw [isN_of r1]
  exact c F1 A1 _ m1 H1 s1 p1 G1 q _ rv_bl
theorem je_notN {j pos'} (ha : JE X a ta) : JE X (.Compare a [.IsNot] [.Constant .none j pos'] pos) (dNotN ta) := (pe_cmp (pc_notN ha)).imp fun _ _ _ h => lift_notN h
theorem jt_of_cmp {op : CmpOp} {t : DE} {te : TE} (hc : PC X op a b te) (hl : ∀ σ H Q, lift X.K t σ H Q → te σ H Q) (h1 : behindInMarks op b = false := by first | exact nobehind _ (by decide) (by decide) | rfl) : JT X (.Compare a [op] [b] pos) (dTest t) := by
  refine (pt_cmp hc h1).imp fun σ H Q h => ?_
  obtain ⟨W, F, A, m, Qd, G, h, c⟩ := h
  refine hl σ H _ ⟨W, F, A, m, _, G, h, fun F1 A1 v m1 H1 s1 p1 G1 q1 u r1 => ?_⟩
  obtain ⟨k, rfl, q⟩ := dTest_elim q1
  exact ⟨k, repB_bl (H := H1) r1, c F1 A1 k m1 H1 s1 p1 G1 q⟩
theorem jt_isN {j pos'} (ha : JE X a ta) : JT X (.Compare a [.Is] [.Constant .none j pos'] pos) (dTest (dIsN ta)) := jt_of_cmp (pc_isN ha) fun _ _ _ h => lift_isN h
theorem jt_notN {j pos'} (ha : JE X a ta) : JT X (.Compare a [.IsNot] [.Constant .none j pos'] pos) (dTest (dNotN ta)) := jt_of_cmp (pc_notN ha) fun _ _ _ h => lift_notN h

def dNil : DA := fun m Q => Q [] m
def dCons (t : DE) (ts : DA) : DA := fun m Q => t m fun v m1 => ts m1 fun vs m2 => Q (v :: vs) m2
theorem ja_nil : JA X [] dNil := pa_nil.imp fun σ H Q ⟨W, F, A, m, Qd, G, h, c⟩ => c F A [] m H (Same.refl _) (pre_refl _) G h [] rfl
theorem ja_cons {e : Expr} {es : List Expr} {ts : DA} (h : JE X e ta) (hs : JA X es ts) (he : starEach (e :: es) X.env = (false, eval e X.env) :: starEach es X.env := by rfl) : JA X (e :: es) (dCons ta ts) := by
  refine (pa_cons h hs he).imp fun σ H Q hh => ?_
  obtain ⟨W, F, A, m, Qd, G, h, c⟩ := hh
  refine ⟨W, F, A, m, _, G, h, fun F1 A1 v m1 H1 s1 p1 G1 q1 u r1 => ⟨W, F1, A1, m1, _, G1, q1, fun F2 A2 vs m2 H2 s2 p2 G2 q2 us r2 => ?_⟩⟩
  exact c F2 A2 (v :: vs) m2 H2 (s1.trans s2) (pre_trans p1 p2) G2 q2 (u :: us) ⟨u, us, rfl, RepV.mono s2 p2 r1, r2⟩
def onDs : List Vl → (List Dt → Prop) → Prop
  | [], k => k []
  | .d x :: r, k => onDs r fun xs => k (x :: xs)
  | .c _ :: _, _ => False
theorem onDs_elim : ∀ {vs : List Vl} {k : List Dt → Prop}, onDs vs k → ∃ xs, vs = xs.map .d ∧ k xs
  | [], _, h => ⟨[], rfl, h⟩
  | .d x :: r, k, h => by
    obtain ⟨xs, e, q⟩ := onDs_elim (vs := r) h
    exact ⟨x :: xs, by rw [e]; rfl, q⟩
  | .c _ :: _, _, h => h.elim
theorem reps_of {K : PySem.W.Frag} {F : Hp} {A : List Addr} : ∀ {xs : List Dt} {us : List V}, RepVs K F A (xs.map .d) us → Reps K F xs us
  | [], us, h => by
    have e : us = [] := h
    rw [e]
    exact .nil
  | x :: xs, us, h => by
    obtain ⟨u, r, rfl, h1, h2⟩ := h
    exact .cons h1 (reps_of h2)

def dTup (ts : DA) : DE := fun m Q => ts m fun vs m1 => vs.length ≤ sizeLine ∧ onDs vs fun xs => Q (.d (.tup xs)) m1
def dLst (ts : DA) : DE := fun m Q => ts m fun vs m1 => vs.length ≤ sizeLine ∧ onDs vs fun xs => Q (.d (.lst xs)) m1
def dLstO (ts : DA) : DE := fun m Q => ts m fun vs m1 => vs.length ≤ sizeLine ∧ onDs vs fun xs => Q (.c m1.st.length) ⟨m1.sl, m1.st ++ [.lst xs]⟩
theorem je_tup {es : List Expr} {ts : DA} {k} (h : JA X es ts) : JE X (.Tuple es k pos) (dTup ts) := by
  refine (pe_tup h).imp fun σ H Q hh => ?_
  obtain ⟨W, F, A, m, Qd, G, h, c⟩ := hh
  refine ⟨W, F, A, m, _, G, h, fun F1 A1 vs m1 H1 s1 p1 G1 q1 us r1 => ⟨by rw [← r1.length]; exact q1.1, fun p np => ?_⟩⟩
  obtain ⟨xs, rfl, q⟩ := onDs_elim q1.2
  have rs := reps_of r1
  have s2 := same_upd (o := .tup us) (G1.ext.free np)
  refine c (upd F1 p (.tup us)) A1 _ m1 _ (s1.trans s2) p1 (G1.laid np) q _ ?_
  show Rep X.K _ (.tup xs) _
  simp only [Rep]
  exact ⟨p, us, rfl, SqT.of upd_same, Reps.mono s2 rs⟩
theorem je_lst {es : List Expr} {ts : DA} (h : JA X es ts) : JE X (.List es pos) (dLst ts) := by
  refine (pe_lst h).imp fun σ H Q hh => ?_
  obtain ⟨W, F, A, m, Qd, G, h, c⟩ := hh
  refine ⟨W, F, A, m, _, G, h, fun F1 A1 vs m1 H1 s1 p1 G1 q1 us r1 => ⟨by rw [← r1.length]; exact q1.1, fun p np => ?_⟩⟩
  obtain ⟨xs, rfl, q⟩ := onDs_elim q1.2
  have rs := reps_of r1
  have s2 := same_upd (o := .lst us) (G1.ext.free np)
  refine c (upd F1 p (.lst us)) A1 _ m1 _ (s1.trans s2) p1 (G1.laid np) q _ ?_
  show Rep X.K _ (.lst xs) _
  simp only [Rep]
  exact ⟨p, us, rfl, Rd.of upd_same, Reps.mono s2 rs⟩
theorem je_lstO {es : List Expr} {ts : DA} (h : JA X es ts) : JE X (.List es pos) (dLstO ts) := by
  refine (pe_lst h).imp fun σ H Q hh => ?_
  obtain ⟨W, F, A, m, Qd, G, h, c⟩ := hh
  refine ⟨W, F, A, m, _, G, h, fun F1 A1 vs m1 H1 s1 p1 G1 q1 us r1 => ⟨by rw [← r1.length]; exact q1.1, fun p np => ?_⟩⟩
  obtain ⟨xs, rfl, q⟩ := onDs_elim q1.2
  refine c F1 (A1 ++ [p]) _ _ _ s1 (pre_trans p1 ⟨[p], rfl⟩) (G1.own np (reps_of r1)) q _ ⟨p, ?_, rfl⟩
  rw [← G1.len]
  simp

def onO {α : Type} (o : Option α) (P : α → Prop) : Prop := match o with
  | some z => P z
  | none => False
theorem onO_elim {α : Type} {o : Option α} {P : α → Prop} (h : onO o P) : ∃ z, o = some z ∧ P z := by
  cases o with
  | none => exact h.elim
  | some z => exact ⟨z, rfl, h⟩
theorem onO_mk {α : Type} {o : Option α} {P : α → Prop} {z : α} (e : o = some z) (h : P z) : onO o P := by
  rw [e]
  exact h
def rIx : DR2 := fun x y P => match x, y with
  | .lst xs, .int i => onO (atI xs i) P
  | .tup xs, .int i => onO (atI xs i) P
  | .str s, .int i => s.length ≤ sizeLine ∧ onO (atI s.cps.toList i) fun c => P (.str ⟨#[c]⟩)
  | _, _ => False
theorem atI_reps {K : PySem.W.Frag} {F : Hp} {xs : List Dt} {vs : List V} {i : Int} {z : Dt} (r : Reps K F xs vs) (h : atI xs i = some z) : ∃ v, atI vs i = some v ∧ Rep K F z v := by
  unfold atI at h ⊢
  rw [← r.length]
  cases q : ixN xs.length i with
  | none =>
    rw [q] at h
    cases h
  | some j =>
    rw [q] at h
    exact r.get (i := j) h
theorem val_ix : ValD X.K (L2.rIx X.K) rIx := by
  intro W F A m σ H x y u v P Q G rx ry q c
  have go : ∀ z w, Rep X.K F z w → P z → Q w H := fun z w rz pz => c F H z w (Same.refl _) G rz pz
  unfold rIx at q
  split at q
  · obtain ⟨a, vs, rfl, hs, rs⟩ := rx
    obtain ⟨z, e, q⟩ := onO_elim q
    obtain ⟨w, hw, rz⟩ := atI_reps rs e
    exact .inl ⟨a, vs, _, w, rfl, repB_int ry, .inl hs, hw, go z w rz q⟩
  · obtain ⟨a, vs, rfl, hs, rs⟩ := repB_tup rx
    have hs := seqT_mono G.ext hs
    obtain ⟨z, e, q⟩ := onO_elim q
    obtain ⟨w, hw, rz⟩ := atI_reps rs e
    exact .inr (.inl ⟨a, vs, _, w, rfl, repB_int ry, hs, hw, go z w rz q⟩)
  · obtain ⟨hl, q⟩ := q
    obtain ⟨z, e, q⟩ := onO_elim q
    exact .inr (.inr ⟨_, _, z, repB_str rx, repB_int ry, hl, e, go _ _ rep_str q⟩)
  · exact q.elim
theorem je_ix (ha : JE X a ta) (hb : JE X b tb) (hs : PlainIx b := by intro _ _; rfl) : JE X (.Subscript a b pos) (dOp rIx ta tb) :=
  (pe_ix ix_seq ha hb hs).imp fun _ _ _ h => lift_op val_ix h
end
end RT

set_option maxRecDepth 100000
set_option maxHeartbeats 4000000
namespace RT
open PySem PySem.Spec PyProof.Rows L2

structure GRoom (k : Nat) (A : Around) : Prop where
  room : Room k A
  gd : A.guards = some []
  dp : A.depth + 3 * k + 160 < recursionLimit
theorem GRoom.mono {j k : Nat} {A : Around} (r : GRoom k A) (h : j ≤ k) : GRoom j A := ⟨r.room.mono h, r.gd, by have := r.dp; omega⟩
theorem GRoom.deeper {k : Nat} {A : Around} (r : GRoom (k + 1) A) (env : Env) : GRoom k (A.deeper env) :=
  ⟨r.room.deeper env, r.gd, by have := r.dp; show A.depth + 1 + 3 * k + 160 < _; omega⟩
theorem GRoom.hu {k : Nat} {A : Around} (r : GRoom k A) : A.units + 64 < cLine := r.room.units
structure BaseOk (K : PySem.W.Frag) (mg : Str → Option Value) (base : Heap) : Prop where
  seer : base.NoSeer
  tb : ∀ q ∈ tabsK K, GxR.TabB base mg q.1 q.2
def CodeIs (K : PySem.W.Frag) (f : Addr) (cdv : Value) : Prop := ∃ (oc : Value) (od : Option Addr) (fd : FuncData) (osl : Array (Option Value)), K.lookup f = some ⟨oc, od, .func fd, osl⟩ ∧ fd.code = cdv
structure Amb (k : Nat) (X : Cx) : Prop where
  rm : GRoom k X.A
  py : Pyl X
  tb : ∀ q ∈ tabsK X.K, GxR.TabB X.base X.mg q.1 q.2
theorem Amb.mono {j k : Nat} {X : Cx} (r : Amb k X) (h : j ≤ k) : Amb j X := ⟨r.rm.mono h, r.py, r.tb⟩
theorem Amb.hu {k : Nat} {X : Cx} (r : Amb k X) : X.A.units + 64 < cLine := r.rm.room.units

structure Fnn (P : Program) (w : World) (K : PySem.W.Frag) (mg : Str → Option Value) (base : Heap) (CX : CXT) (k : Nat) (f : Addr) (fd : FuncData) (ps : List Str) (sp : Sp) : Prop where
  len : ∀ vs H Q E, sp vs H Q E → vs.length = ps.length
  run : ∀ (A : Around) (outer : List Env) (s : Shared) (H : Hp) (args : Args) (us : List Value) (vs : List V) (Q : VK) (E : XK), GRoom k A → Env0 P w K mg base A outer s H → BindsTo s fd args (ps.zip us) → Vals vs us → sp vs H Q E →
    codeAny (model P w) A (.call (.ref f) args) (CR CX outer P w H s Q E) s
theorem Fnn.mono {P : Program} {w : World} {K : PySem.W.Frag} {mg : Str → Option Value} {base : Heap} {CX : CXT} {j k : Nat} {f : Addr} {fd : FuncData} {ps : List Str} {sp : Sp} (F : Fnn P w K mg base CX j f fd ps sp) (h : j ≤ k) :
    Fnn P w K mg base CX k f fd ps sp := ⟨F.len, fun A outer s H args us vs Q E hr => F.run A outer s H args us vs Q E (hr.mono h)⟩
theorem Fnn.imp {P : Program} {w : World} {K : PySem.W.Frag} {mg : Str → Option Value} {base : Heap} {CX : CXT} {k : Nat} {f : Addr} {fd : FuncData} {ps : List Str} {sp sp' : Sp} (F : Fnn P w K mg base CX k f fd ps sp)
    (h : ∀ vs H Q E, sp' vs H Q E → sp vs H Q E) : Fnn P w K mg base CX k f fd ps sp' :=
  ⟨fun vs H Q E q => F.len vs H Q E (h _ _ _ _ q), fun A outer s H args us vs Q E hr he hb hv hs => F.run A outer s H args us vs Q E hr he hb hv (h _ _ _ _ hs)⟩
section
variable {X : Cx} {CX : CXT} {k : Nat} {f C : Addr} {fd : FuncData} {ps : List Str} {sp : Sp} {dvs : List V} {ds : List Value} {E : XK} {x m : Str} {p pos apos : Pos} {e o : Expr} {es : List Expr} {ta : TE} {t : TA}
theorem run_fnn {pins : List (Addr × Obj)} {σ : L2.St} {H : Hp} {s : Shared} {Q : VK} {us : List Value} {vs : List V} (F : Fnn X.prog X.w X.K X.mg X.base CX k f fd ps sp) (hr : GRoom k X.A) (hb : Binds X.K fd ps ds) (hd : Vals dvs ds) (hx : Passes CX X E)
    (I : Inv X pins σ H s) (r : Vals vs us) (h : sp (vs ++ dvs) H Q E) : wpAny (model X.prog X.w) X.A (call (.ref f) us) (EP X pins σ Q) X.xe s := by
  have r2 : Vals (vs ++ dvs) (us ++ ds) := r.append hd
  have hl : (us ++ ds).length = ps.length := by rw [← r2.length]; exact F.len _ _ _ _ h
  refine wpAny_call (codeAny_mono (F.run X.A X.stack s H ⟨us, []⟩ (us ++ ds) (vs ++ dvs) Q E hr I.env0 (hb s us I.kIn hl) r2 h) fun r s' hq => ?_)
  cases r with
  | error e => exact hx pins σ H s e s' I hq
  | ok fl =>
    cases fl with
    | ret u => exact I.after hq
    | next => exact False.elim hq
    | brk => exact False.elim hq
    | cont => exact False.elim hq
theorem pn_call (F : Fnn X.prog X.w X.K X.mg X.base CX k f fd ps sp) (hr : GRoom k X.A) (hg : Gl X x) (hm : X.mg x = some (.ref f)) (hk : PySem.W.keepIn X.K (.ref f) = true) (hb : Binds X.K fd ps ds) (hd : Vals dvs ds) (hx : Passes CX X E)
    (ha : PA X (e :: es) t) (hdb : (x == ("__debug__" : Str)) = false := by decide) (he : starEach (e :: es) X.env = (false, eval e X.env) :: starEach es X.env := by rfl) (hpl : (backTo pos (starEach es X.env)).any (·.1) = false := by rfl) :
    PE X (.Call (.Name x p) (e :: es) [] pos) (tCall sp dvs E t) := by
  refine ⟨fun pins s σ H Q I h => ?_⟩
  refine wpAny_Call_Name_kw (ld_glob I hg hm ?_ hdb)
  refine PySem.W.callWith_K (h₀ := X.base) I.ok.mod.kin hk (thn (ha.run pos pins s σ H _ I h) fun us s1 ⟨vs, H1, I1, r, q⟩ => ⟨I1.kIn, ?_⟩) he hpl
  exact run_fnn F hr hb hd hx I1 r q
end
theorem fnn_of {CX : CXT} {P : Program} {w : World} {K : PySem.W.Frag} {mg : Str → Option Value} {base : Heap} {k : Nat} {f : Addr} {name qual : Str} {params : Arguments} {body : List Stmt} {scope : Scope} {dV kV doc pm cdv ct oc : Value} {an od : Option Addr}
    {osl : Array (Option Value)} {N ps : List Str} {sp : Sp} (hns : BaseOk K mg base) (htr : P.given.tree = none) (lk : K.lookup f = some ⟨oc, od, .func (PySem.W.fnOf name qual params body scope dV kV doc pm an cdv ct), osl⟩) (hcd : PySem.W.codeIn K cdv qual = true) (S : FnScope N ps scope)
    (len : ∀ vs H Q E, sp vs H Q E → vs.length = ps.length)
    (hbody : ∀ (A : Around) (outer : List Env) (s : Shared) (H : Hp) (vs : List V) (Q : VK) (E : XK), Amb k (cxOf CX P w K mg base N qual scope f cdv A outer s H E) → sp vs H Q E →
      ∃ t, PSs (cxOf CX P w K mg base N qual scope f cdv A outer s H E) body t ∧ t { nx := fun _ H' => Q .non H', rt := Q } (L2.start N vs) H) :
    Fnn P w K mg base CX (k + 1) f (PySem.W.fnOf name qual params body scope dV kV doc pm an cdv ct) ps sp := by
  refine ⟨len, fun A outer s H args us vs Q E hr e0 hb r hsp => ?_⟩
  have hl := len _ _ _ _ hsp
  have KX : K.In s.heap := e0.mod.kin.keeps fun b o e => (e0.bs b o e).1
  have lim : s.heap.NoLimit := e0.mod.nolimit.keeps fun b o e => (e0.bs b o e).1
  have hkind : ∀ y ∈ ps.zip us, scope.names.lookup y.1 = some .local ∨ (scope.names.lookup y.1 = some .cell ∧ ((cellsFrom (s.heap.objs.size + 1) scope.names []).lookup y.1).isSome = true) := fun ⟨n, v⟩ hy => by
    rcases S.par n (List.of_mem_zip hy).1 with q | q
    · exact .inl q
    · exact .inr ⟨q, PySem.W.cellsFrom_some _ _ _ (.inl q)⟩
  refine codeAny_call_function hr.room.depth (KX _ _ lk) rfl S.co S.gen rfl (PySem.W.codeRec_of KX hcd) (hb _ _ _ _ ?_)
  refine wpAny_newFunctionEnv_cells S.kind hkind fun env he s1 x => ?_
  subst he
  refine ⟨lim.keeps x.toInCall.keep, codeAny_func ?_⟩
  have amb : Amb k (cxOf CX P w K mg base N qual scope f cdv A outer s H E) := ⟨hr.deeper _, fun s' ks =>
    PySem.PylongRoom.of (e0.mod.nolimit.keeps ks) (by have := hr.dp; show A.depth + 1 + Builtin.pylongFrames < recursionLimit; have e : Builtin.pylongFrames = 100 := rfl; omega)
      (PySem.SeerAt.of (hns.seer.keeps ks) htr (PySem.Around.frames_deeper e0.frames) S.gen S.co rfl rfl), hns.tb⟩
  obtain ⟨t, ht, hq⟩ := hbody A outer s H vs Q E amb hsp
  have I : Inv (cxOf CX P w K mg base N qual scope f cdv A outer s H E) [] (L2.start N vs) H s1 := inv_start S hr.room.hd e0 hl r x
  refine wpAny_mono (ht.run [] s1 (L2.start N vs) H _ I hq) (fun fl s' hs => ?_) fun e s' hs => hs
  have fin : ∀ {σ' : L2.St} {H' : Hp} {v : V} {u : Value}, Inv (cxOf CX P w K mg base N qual scope f cdv A outer s H E) [] σ' H' s' → RelV v u → Q v H' → CE outer P w H s Q u s' :=
    fun {σ' H' v u} J rv q => ⟨v, H', J.os, J.bare, J.base, J.hok, rv, q⟩
  cases fl with
  | ret u =>
    obtain ⟨v, σ', H', J, rv, q⟩ := hs
    exact fin J rv q
  | next =>
    obtain ⟨σ', H', J, q⟩ := hs
    exact fin (v := V.non) (u := Value.none) J rfl q
  | brk =>
    obtain ⟨_, _, _, q⟩ := hs
    exact False.elim q
  | cont =>
    obtain ⟨_, _, _, q⟩ := hs
    exact False.elim q

abbrev FSpec := List Vl → List Cell → (Vl → List Cell → Prop) → Prop
def liftSp (K : PySem.W.Frag) (sp : FSpec) : Sp := fun vs H Q _ => ∃ W F A st args Qd, Good K W F A ⟨[], st⟩ [] H ∧ RepVs K F A args vs ∧ sp args st Qd ∧
  ∀ F' A' st' H' r u, Same F F' → A <+: A' → Good K W F' A' ⟨[], st'⟩ [] H' → RepV K F' A' r u → Qd r st' → Q u H'
section
variable {K : PySem.W.Frag} {W F F' : Hp} {A A' : List Addr} {m : M} {σ : L2.St} {H H' : Hp}
theorem Good.bare (G : Good K W F A m σ H) : Good K W F A ⟨[], m.st⟩ [] H := ⟨G.ext, G.hid, G.dj, rfl, fun i v e => by simp at e, G.len, G.st, G.nd, G.tb⟩
theorem Good.back {st' : List Cell} (G : Good K W F A m σ H) (s : Same F F') (p : A <+: A') (G' : Good K W F' A' ⟨[], st'⟩ [] H') : Good K W F' A' ⟨m.sl, st'⟩ σ H' :=
  ⟨G'.ext, G'.hid, G'.dj, G.slen, fun i v e => let ⟨u, h1, h2⟩ := G.sl i v e; ⟨u, h1, RepV.mono s p h2⟩, G'.len, G'.st, G'.nd, G'.tb⟩
theorem Good.take (G : Good K W F A m σ H) (n : Nat) : Good K W F (A.take n) ⟨[], m.st.take n⟩ [] H := by
  have q : ∀ k c, (m.st.take n)[k]? = some c → k < n ∧ m.st[k]? = some c := fun k c e => by
    rw [List.getElem?_take] at e
    by_cases hk : k < n
    · rw [if_pos hk] at e
      exact ⟨hk, e⟩
    · rw [if_neg hk] at e
      cases e
  have ra : ∀ k, k < n → (A.take n)[k]? = A[k]? := fun k hk => by rw [List.getElem?_take, if_pos hk]
  refine ⟨G.ext, G.hid, G.dj, rfl, fun i v e => by simp at e, by simp [G.len], fun k xs e => ?_, fun j k xs ys a e1 e2 h1 h2 => ?_, G.tb⟩
  · obtain ⟨hk, e'⟩ := q k _ e
    obtain ⟨a, vs, p1, p2⟩ := G.st k xs e'
    exact ⟨a, vs, (ra k hk).trans p1, p2⟩
  · obtain ⟨hj, e1'⟩ := q j _ e1
    obtain ⟨hk, e2'⟩ := q k _ e2
    exact G.nd j k xs ys a e1' e2' ((ra j hj).symm.trans h1) ((ra k hk).symm.trans h2)
theorem repVs_slots {args : List Vl} {vs : List V} (r : RepVs K F A args vs) (n : Nat) : ∀ (i : Nat) (v : Vl), (args.map some ++ List.replicate n none)[i]? = some (some v) → ∃ u : V, (vs.map some ++ List.replicate n (none : Option V))[i]? = some (some u) ∧ RepV K F A v u := by
  induction args generalizing vs with
  | nil =>
    intro i v e
    simp only [List.map_nil, List.nil_append, List.getElem?_replicate] at e
    split at e <;> cases e
  | cons a r' ih =>
    obtain ⟨u, us, rfl, h1, h2⟩ := r
    intro i v e
    cases i with
    | zero =>
      cases e
      exact ⟨u, rfl, h1⟩
    | succ j => exact ih h2 j v e
def retD (kp : Bool) (n : Nat) (Qd : Vl → List Cell → Prop) : Vl → M → Prop := fun v m => match v with
  | .d x => Qd (.d x) (m.st.take n)
  | .c k => if k < n then Qd (.c k) (m.st.take n) else onC m.st k fun xs => if kp = true then Qd (.c n) (m.st.take n ++ [.lst xs]) else Qd (.d (.lst xs)) (m.st.take n)
def endsOf (kp : Bool) (n : Nat) (Qd : Vl → List Cell → Prop) : DEnds := ⟨retD kp n Qd (.d .non), retD kp n Qd, fun _ => False, fun _ => False⟩
def startM (N : Nat) (args : List Vl) (st : List Cell) : M := ⟨args.map some ++ List.replicate (N - args.length) none, st⟩
theorem pre_take {A0 A' : List Addr} (p : A0 <+: A') : A'.take A0.length = A0 := by
  obtain ⟨t, rfl⟩ := p
  simp
theorem retD_ok {kp : Bool} {A0 : List Addr} {F0 : Hp} {n : Nat} {Qd : Vl → List Cell → Prop} {Q : VK} {v : Vl} {u : V} (hn : A0.length = n) (sF : Same F0 F) (p : A0 <+: A) (G : Good K W F A m σ H) (r : RepV K F A v u) (q : retD kp n Qd v m)
    (c : ∀ F' A' st' H' r u, Same F0 F' → A0 <+: A' → Good K W F' A' ⟨[], st'⟩ [] H' → RepV K F' A' r u → Qd r st' → Q u H') : Q u H := by
  have eA : A.take n = A0 := by rw [← hn]; exact pre_take p
  have G1 := G.take n
  rw [eA] at G1
  cases v with
  | d x => exact c F A0 _ H (.d x) u sF (pre_refl _) G1 r q
  | c k =>
    obtain ⟨a, ha, rfl⟩ := r
    have q' : if k < n then Qd (.c k) (m.st.take n) else onC m.st k fun xs => if kp = true then Qd (.c n) (m.st.take n ++ [.lst xs]) else Qd (.d (.lst xs)) (m.st.take n) := q
    by_cases hk : k < n
    · rw [if_pos hk] at q'
      refine c F A0 _ H (.c k) _ sF (pre_refl _) G1 ⟨a, ?_, rfl⟩ q'
      rw [← eA, List.getElem?_take, if_pos hk]
      exact ha
    · rw [if_neg hk] at q'
      obtain ⟨xs, e, q'⟩ := onC_elim q'
      · obtain ⟨a', vs, h1, h2, h3, h4, h5⟩ := G.st k xs e
        rw [ha] at h1
        cases h1
        have old : ∀ (j : Nat) (ys : List Dt) (b : Addr), (m.st.take n)[j]? = some (Cell.lst ys) → A0[j]? = some b → b ≠ a := fun j ys b e1 e2 z => by
          rw [List.getElem?_take] at e1
          by_cases hj : j < n
          · rw [if_pos hj] at e1
            have e3 : A[j]? = some b := by
              rw [← eA, List.getElem?_take, if_pos hj] at e2
              exact e2
            have := G.nd j k ys xs a e1 e (by rw [← z]; exact e3) ha
            omega
          · rw [if_neg hj] at e1
            cases e1
        have nlen : (m.st.take n).length = n := by rw [← G1.len]; exact hn
        split at q'
        · -- the caller's own
          refine c F (A0 ++ [a]) _ H (.c n) _ sF ⟨[a], rfl⟩ ?_ ⟨a, ?_, rfl⟩ q'
          · have sp : ∀ j c, (m.st.take n ++ [Cell.lst xs])[j]? = some c → (j < n ∧ (m.st.take n)[j]? = some c) ∨ (j = n ∧ c = .lst xs) := fun j c e => by
              by_cases hj : j < n
              · exact .inl ⟨hj, by rw [List.getElem?_append_left (by rw [nlen]; exact hj)] at e; exact e⟩
              · have hl := (List.getElem?_eq_some_iff.mp e).1
                rw [List.length_append, nlen, List.length_singleton] at hl
                have ej : j = n := by omega
                subst ej
                rw [List.getElem?_append_right (by rw [nlen]; exact Nat.le_refl _), nlen, Nat.sub_self] at e
                exact .inr ⟨rfl, (Option.some.inj e).symm⟩
            have aold : ∀ j, j < n → (A0 ++ [a])[j]? = A0[j]? := fun j hj => List.getElem?_append_left (by rw [hn]; exact hj)
            have anew : (A0 ++ [a])[n]? = some a := by rw [← hn]; simp
            refine ⟨G.ext, G.hid, G.dj, rfl, fun i v e => by simp at e, by rw [List.length_append, List.length_append, nlen, hn]; rfl, fun j ys e => ?_, fun i j ys zs b e1 e2 p1 p2 => ?_, G.tb⟩
            · rcases sp j _ e with ⟨hj, e'⟩ | ⟨rfl, ec⟩
              · obtain ⟨b, ws, q1, q2⟩ := G1.st j ys e'
                exact ⟨b, ws, (aold j hj).trans q1, q2⟩
              · cases ec
                exact ⟨a, vs, anew, h2, h3, h4, h5⟩
            · rcases sp i _ e1 with ⟨hi, e1'⟩ | ⟨rfl, _⟩
              · rcases sp j _ e2 with ⟨hj, e2'⟩ | ⟨rfl, _⟩
                · exact G1.nd i j ys zs b e1' e2' ((aold i hi).symm.trans p1) ((aold j hj).symm.trans p2)
                · rw [anew] at p2
                  cases p2
                  exact (old i ys _ e1' ((aold i hi).symm.trans p1) rfl).elim
              · rcases sp j _ e2 with ⟨hj, e2'⟩ | ⟨rfl, _⟩
                · rw [anew] at p1
                  cases p1
                  exact (old j zs _ e2' ((aold j hj).symm.trans p2) rfl).elim
                · rfl
          · rw [← hn]
            simp
        · -- plain data
          have s2 : Same F (upd F a (.lst vs)) := same_upd h4
          refine c (upd F a (.lst vs)) A0 _ H (.d (.lst xs)) _ (sF.trans s2) (pre_refl _) ⟨fun b x z => ?_, G.hid, fun b x z => by rw [upd_ne (fun y => by rw [y, h5] at z; cases z)]; exact G.dj b x z, rfl, fun i v e => by simp at e, G1.len, fun j ys e' => ?_, G1.nd, fun q hq => ⟨(G.tb q hq).1, by rw [upd_ne (tab_ne (G.tb q hq).1 h2)]; exact (G.tb q hq).2.1, (G.tb q hq).2.2⟩⟩ ?_ q'
          · by_cases hb : b = a
            · subst hb
              rw [upd_same] at z
              cases z
              exact h2
            · rw [upd_ne hb] at z
              exact G.ext _ _ z
          · obtain ⟨b, ws, q1, q2, q3, q4⟩ := G1.st j ys e'
            exact ⟨b, ws, q1, q2, Reps.mono s2 q3, by rw [upd_ne (old j ys b e' q1)]; exact q4.1, q4.2⟩
          · show Rep K _ (.lst xs) _
            simp only [Rep]
            exact ⟨a, vs, rfl, Rd.of upd_same, Reps.mono s2 h3⟩
end

def dCall (sp : FSpec) (dargs : List Vl) (ts : DA) : DE := fun m Q => ts m fun vs m1 => sp (vs ++ dargs) m1.st fun r st' => Q r ⟨m1.sl, st'⟩
theorem repVs_app {K : PySem.W.Frag} {F : Hp} {A : List Addr} : ∀ {x y : List Vl} {u v : List V}, RepVs K F A x u → RepVs K F A y v → RepVs K F A (x ++ y) (u ++ v)
  | [], y, u, v, h, h' => by
    have e : u = [] := h
    rw [e]
    exact h'
  | a :: x, y, u, v, h, h' => by
    obtain ⟨u0, r, rfl, h1, h2⟩ := h
    exact ⟨u0, r ++ v, rfl, h1, repVs_app h2 h'⟩
theorem lift_call {K : PySem.W.Frag} {sp : FSpec} {dargs : List Vl} {dvs : List V} {ts : DA} {E : XK} (hd : ∀ F A, RepVs K F A dargs dvs) {σ : L2.St} {H : Hp} {Q : VK} (h : lift K (dCall sp dargs ts) σ H Q) : tCall (liftSp K sp) dvs E (liftA K ts) σ H Q := by
  obtain ⟨W, F, A, m, Qd, G, h, c⟩ := h
  refine ⟨W, F, A, m, _, G, h, fun F1 A1 vs m1 H1 s1 p1 G1 q1 us r1 => ⟨W, F1, A1, m1.st, vs ++ dargs, _, G1.bare, repVs_app r1 (hd F1 A1), q1, fun F2 A2 st2 H2 r u s2 p2 G2 r2 q2 => ?_⟩⟩
  exact c F2 A2 r _ H2 (s1.trans s2) (pre_trans p1 p2) (G1.back s2 p2 G2) q2 u r2
structure FnAt (X : Cx) (x : Str) (k : Nat) (sp : FSpec) (dargs : List Vl) : Prop where
  nd : (x == ("__debug__" : Str)) = false
  ex : ∃ (f : Addr) (fd : FuncData) (ps : List Str) (ds : List Value) (dvs : List V), Fnn X.prog X.w X.K X.mg X.base CX0 k f fd ps (liftSp X.K sp) ∧ X.mg x = some (.ref f) ∧ PySem.W.keepIn X.K (.ref f) = true ∧ Binds X.K fd ps ds ∧ Vals dvs ds ∧ ∀ F A, RepVs X.K F A dargs dvs
section
variable {X : Cx} {k : Nat} {x : Str} {p pos : Pos} {e : Expr} {es : List Expr} {ts : DA} {sp : FSpec} {dargs : List Vl}
theorem je_call (F : FnAt X x k sp dargs) (hr : GRoom k X.A) (hg : Gl X x) (ha : JA X (e :: es) ts) (he : starEach (e :: es) X.env = (false, eval e X.env) :: starEach es X.env := by rfl) (hpl : (backTo pos (starEach es X.env)).any (·.1) = false := by rfl) :
    JE X (.Call (.Name x p) (e :: es) [] pos) (dCall sp dargs ts) := by
  obtain ⟨nd, f, fd, ps, ds, dvs, F, hm, hk, hb, hd, hda⟩ := F
  exact (pn_call F hr hg hm hk hb hd pass0 ha nd he hpl).imp fun _ _ _ h => lift_call hda h
end
end RT

set_option maxRecDepth 100000
set_option maxHeartbeats 4000000
namespace RT
open PySem PySem.Spec PyProof.Rows L2

inductive Tgt where
  | nm (i : Nat) | tp (is : List Nat)
def gNames : List Nat → TGs
  | [] => gNil
  | i :: r => gCons (gName i) (gNames r)
def tgH (K : PySem.W.Frag) : Tgt → TG
  | .nm i => gName i
  | .tp is => gTup K is.length (gNames is)
def setsD : List Nat → List Dt → List (Option Vl) → List (Option Vl)
  | i :: is, x :: xs, sl => setsD is xs (sl.set i (some (.d x)))
  | _, _, sl => sl
def setsV : List Nat → List V → L2.St → L2.St
  | i :: is, x :: xs, σ => setsV is xs (σ.set i (some x))
  | _, _, σ => σ
def tgD : Tgt → Vl → M → (M → Prop) → Prop
  | .nm i, v, m, Q => Q ⟨m.sl.set i (some v), m.st⟩
  | .tp is, v, m, Q => match v with
    | .d (.tup xs) => xs.length = is.length ∧ Q ⟨setsD is xs m.sl, m.st⟩
    | _ => False
def tgSlots : Tgt → List Nat
  | .nm i => [i]
  | .tp is => is
section
variable {K : PySem.W.Frag} {W F F' : Hp} {A A' : List Addr} {m : M} {σ : L2.St} {H H' : Hp}
theorem Good.sets : ∀ {is : List Nat} {xs : List Dt} {vs : List V} {m : M} {σ : L2.St}, Good K W F A m σ H → Reps K F xs vs → Good K W F A ⟨setsD is xs m.sl, m.st⟩ (setsV is vs σ) H
  | [], _, _, _, _, G, _ => by
    unfold setsD setsV
    exact G
  | i :: is, [], vs, m, σ, G, r => by
    have e : vs = [] := by simpa only [Reps] using r
    rw [e]
    exact G
  | i :: is, x :: xs, vs, m, σ, G, r => by
    have e : ∃ v r', vs = v :: r' ∧ Rep K F x v ∧ Reps K F xs r' := by simpa only [Reps] using r
    obtain ⟨v, r', rfl, h1, h2⟩ := e
    have G1 := G.store (i := i) (v := .d x) (u := v) h1
    exact Good.sets (is := is) G1 h2
theorem gNames_ok {Q : L2.St → Hp → Prop} : ∀ {is : List Nat} {vs : List V} {σ : L2.St}, vs.length = is.length → Q (setsV is vs σ) H → gNames is vs σ H Q
  | [], [], _, _, q => ⟨rfl, q⟩
  | i :: is, v :: vs, σ, hl, q => ⟨v, vs, rfl, gNames_ok (is := is) (by simpa using hl) q⟩
  | [], _ :: _, _, hl, _ => by simp at hl
  | _ :: _, [], _, hl, _ => by simp at hl
theorem tg_ok {t : Tgt} {v : Vl} {u : V} {Qd : M → Prop} {Q : L2.St → Hp → Prop} (G : Good K W F A m σ H) (r : RepV K F A v u) (q : tgD t v m Qd)
    (c : ∀ m' σ', Good K W F A m' σ' H → (∀ vs : List Nat, (∀ i ∈ tgSlots t, i ∈ vs) → wipe σ' vs = wipe σ vs) → Qd m' → Q σ' H) : tgH K t u σ H Q := by
  have w1 : ∀ (vs : List Nat) (i : Nat) (o : Option V) (σ : L2.St), i ∈ vs → wipe (σ.set i o) vs = wipe σ vs := by
    intro vs
    induction vs with
    | nil =>
      intro i o σ h
      cases h
    | cons v vs ih =>
      intro i o σ h
      unfold wipe
      by_cases hv : v = i
      · subst hv
        by_cases hm : v ∈ vs
        · rw [ih v o σ hm]
        · have w2 : ∀ (vs : List Nat) (σ : L2.St), v ∉ vs → (wipe (σ.set v o) vs) = (wipe σ vs).set v o := by
            intro vs
            induction vs with
            | nil =>
              intro σ _
              rfl
            | cons z vs ih =>
              intro σ hz
              unfold wipe
              rw [ih σ (fun q => hz (List.mem_cons_of_mem _ q)), List.set_comm]
              intro e
              exact hz (by rw [e]; exact List.mem_cons_self)
          rw [w2 vs σ hm, List.set_set]
      · have hm : i ∈ vs := by
          rcases List.mem_cons.mp h with z | z
          · exact absurd z.symm hv
          · exact z
        rw [ih i o σ hm]
  cases t with
  | nm i => exact c _ _ (G.store r) (fun vs hv => w1 vs i _ σ (hv i (by unfold tgSlots; exact List.mem_singleton.mpr rfl))) q
  | tp is =>
    cases v with
    | c k => exact (show False from q).elim
    | d x =>
      cases x with
      | tup xs =>
        obtain ⟨hl, q⟩ : xs.length = is.length ∧ Qd ⟨setsD is xs m.sl, m.st⟩ := q
        have r' : Rep K F (.tup xs) u := r
        simp only [Rep] at r'
        obtain ⟨a, vs, rfl, hs, rs⟩ := r'
        have hlv : vs.length = is.length := by rw [← rs.length]; exact hl
        refine ⟨a, vs, rfl, seqT_mono G.ext hs, hlv, gNames_ok hlv (c _ _ (G.sets rs) (fun ws hw => ?_) q)⟩
        have go : ∀ (is : List Nat) (vs : List V) (σ : L2.St), (∀ i ∈ is, i ∈ ws) → wipe (setsV is vs σ) ws = wipe σ ws := by
          intro is
          induction is with
          | nil =>
            intro vs σ _
            cases vs <;> rfl
          | cons i is ih =>
            intro vs σ hi
            cases vs with
            | nil => rfl
            | cons v vs =>
              show wipe (setsV is vs (σ.set i (some v))) ws = wipe σ ws
              rw [ih vs _ (fun j hj => hi j (List.mem_cons_of_mem _ hj)), w1 ws i _ σ (hi i List.mem_cons_self)]
        exact go is vs σ hw
      | _ => exact (show False from q).elim
end
section
variable {X : Cx}
theorem jg_of {e : Expr} {t : Tgt} {g : TG} (h : PG X e g) (e1 : g = tgH X.K t := by rfl) : PG X e (tgH X.K t) := e1 ▸ h
end

def lockOk (lk : Option Nat) (xs : List Dt) (m : M) : Prop := match lk with
  | none => True
  | some k => m.st[k]? = some (.lst xs)
abbrev DI := M → (List Dt → Option Nat → M → Prop) → Prop
structure Walks (K : PySem.W.Frag) (J : It) (F : Hp) (A : List Addr) (xs : List Dt) (lk : Option Nat) : Prop where
  go : ∀ W F' A' m σ H i x, Same F F' → A <+: A' → Good K W F' A' m σ H → lockOk lk xs m → xs[i]? = some x → J.go i H ∧ ∀ v H', J.yld i H v H' → ∃ F2, Same F' F2 ∧ Good K W F2 A' m σ H' ∧ Rep K F2 x v
  stop : ∀ W F' A' m σ H, Same F F' → A <+: A' → Good K W F' A' m σ H → lockOk lk xs m → J.stop xs.length H
def liftI (K : PySem.W.Frag) (t : DI) : TI := fun σ H R => ∃ W F A m Qd, Good K W F A m σ H ∧ t m Qd ∧
  ∀ F' A' xs lk m' H', Same F F' → A <+: A' → Good K W F' A' m' σ H' → Qd xs lk m' → ∀ J, Walks K J F' A' xs lk → R J H'
abbrev JI (X : Cx) (tg iter : Expr) (t : DI) : Prop := PI X tg iter (liftI X.K t)
theorem _root_.L2.PI.imp {X : Cx} {tg e : Expr} {t t' : TI} (h : PI X tg e t) (f : ∀ σ H Q, t' σ H Q → t σ H Q) : PI X tg e t' := ⟨fun pins s σ H Q I q => h.run pins s σ H Q I (f _ _ _ q)⟩
section
variable {K : PySem.W.Frag}
theorem walks_list {F : Hp} {A : List Addr} {a : Addr} {vs : List V} {xs : List Dt} (s : SqL K F a vs) (r : Reps K F xs vs) : Walks K (Itl K a) F A xs none where
  go := fun W F' A' m σ H i x sF p G _ hi => by
    obtain ⟨v, hv, rv⟩ := r.get hi
    have sq : SqL K H a vs := (sF.trans G.ext).seq s
    refine ⟨⟨vs, v, sq, hv⟩, fun u H' y => ?_⟩
    obtain ⟨rfl, y⟩ := y
    have e := (y vs sq).symm.trans hv
    cases e
    exact ⟨F', Same.refl _, G, Rep.mono sF rv⟩
  stop := fun W F' A' m σ H sF p G _ => ⟨vs, (sF.trans G.ext).seq s, by rw [r.length]; exact Nat.le_refl _⟩
theorem walks_tup {F : Hp} {A : List Addr} {a : Addr} {vs : List V} {xs : List Dt} (s : SqT K F a vs) (r : Reps K F xs vs) : Walks K (Itt K a) F A xs none where
  go := fun W F' A' m σ H i x sF p G _ hi => by
    obtain ⟨v, hv, rv⟩ := r.get hi
    have sq : SqT K H a vs := seqT_mono (sF.trans G.ext) s
    refine ⟨⟨vs, v, sq, hv⟩, fun u H' y => ?_⟩
    obtain ⟨rfl, y⟩ := y
    have e := (y vs sq).symm.trans hv
    cases e
    exact ⟨F', Same.refl _, G, Rep.mono sF rv⟩
  stop := fun W F' A' m σ H sF p G _ => ⟨vs, seqT_mono (sF.trans G.ext) s, by rw [r.length]; exact Nat.le_refl _⟩
theorem walks_own {F : Hp} {A : List Addr} {a : Addr} {k : Nat} {xs : List Dt} (ha : A[k]? = some a) : Walks K (Itl K a) F A xs (some k) := by
  have at_ : ∀ {W F' A' m σ H}, A <+: A' → Good K W F' A' m σ H → lockOk (some k) xs m → ∃ vs, H a = some (.lst vs) ∧ Reps K F' xs vs := fun {W F' A' m σ H} p G l => by
    obtain ⟨a', vs, h1, h2, h3, _⟩ := G.st k xs l
    obtain ⟨t, rfl⟩ := p
    have hk := (List.getElem?_eq_some_iff.mp ha).1
    rw [List.getElem?_append_left hk, ha] at h1
    cases h1
    exact ⟨vs, h2, h3⟩
  refine ⟨fun W F' A' m σ H i x sF p G l hi => ?_, fun W F' A' m σ H sF p G l => ?_⟩
  · obtain ⟨vs, h2, r⟩ := at_ p G l
    obtain ⟨v, hv, rv⟩ := r.get hi
    refine ⟨⟨vs, v, SqL.of h2, hv⟩, fun u H' y => ?_⟩
    obtain ⟨rfl, y⟩ := y
    have e := (y vs (SqL.of h2)).symm.trans hv
    cases e
    exact ⟨F', Same.refl _, G, rv⟩
  · obtain ⟨vs, h2, r⟩ := at_ p G l
    exact ⟨vs, SqL.of h2, by rw [r.length]; exact Nat.le_refl _⟩
end

section
variable {X : Cx} {tg l : Expr} {t : DE}
def rangeD (lo : Int) : Nat → List Dt
  | 0 => []
  | n + 1 => .int lo :: rangeD (lo + 1) n
theorem rangeD_len : ∀ (n : Nat) (lo : Int), (rangeD lo n).length = n
  | 0, _ => rfl
  | n + 1, lo => by
    unfold rangeD
    rw [List.length_cons, rangeD_len n]
theorem rangeD_get : ∀ (n : Nat) (lo : Int) (i : Nat) (x : Dt), (rangeD lo n)[i]? = some x → i < n ∧ x = .int (lo + i)
  | 0, _, i, x, h => by
    unfold rangeD at h
    simp at h
  | n + 1, lo, 0, x, h => by
    unfold rangeD at h
    have e : Dt.int lo = x := Option.some.inj h
    refine ⟨Nat.succ_pos _, ?_⟩
    rw [← e]
    congr 1
    simp
  | n + 1, lo, i + 1, x, h => by
    unfold rangeD at h
    obtain ⟨h1, h2⟩ := rangeD_get n (lo + 1) i x h
    refine ⟨by omega, ?_⟩
    rw [h2]
    congr 1
    omega
theorem walks_range {K : PySem.W.Frag} {F : Hp} {A : List Addr} (lo : Int) (n : Nat) : Walks K (Itr lo n) F A (rangeD lo n) none where
  go := fun W F' A' m σ H i x sF p G _ hi => by
    obtain ⟨h1, rfl⟩ := rangeD_get n lo i x hi
    refine ⟨h1, fun u H' y => ?_⟩
    obtain ⟨rfl, rfl⟩ := y
    exact ⟨F', Same.refl _, G, rep_int⟩
  stop := fun W F' A' m σ H sF p G _ => by
    rw [rangeD_len]
    exact Nat.le_refl n
def small62 (i : Int) : Prop := -(2 ^ 62) ≤ i ∧ i < 2 ^ 62
def dRange1 (ts : DA) : DI := fun m Q => ts m fun vs m1 => match vs with
  | [.d (.int j)] => small62 j ∧ Q (rangeD 0 j.toNat) none m1
  | _ => False
def dRange2 (ts : DA) : DI := fun m Q => ts m fun vs m1 => match vs with
  | [.d (.int i), .d (.int j)] => (small62 i ∧ small62 j) ∧ Q (rangeD i (j - i).toNat) none m1
  | _ => False
variable {ts : DA}
theorem rv1 {K : PySem.W.Frag} {F : Hp} {A : List Addr} {x : Vl} {us : List V} (r : RepVs K F A [x] us) : ∃ u, us = [u] ∧ RepV K F A x u := by
  obtain ⟨u, r', rfl, h1, h2⟩ := r
  have e : r' = [] := h2
  rw [e]
  exact ⟨u, rfl, h1⟩
theorem rv2 {K : PySem.W.Frag} {F : Hp} {A : List Addr} {x y : Vl} {us : List V} (r : RepVs K F A [x, y] us) : ∃ u v, us = [u, v] ∧ RepV K F A x u ∧ RepV K F A y v := by
  obtain ⟨u, r', rfl, h1, h2⟩ := r
  obtain ⟨v, rfl, h3⟩ := rv1 h2
  exact ⟨u, v, rfl, h1, h3⟩
theorem ji_range1 {a : Expr} {p pos : Pos} (hg : Gl X "range") (hm : X.mg "range" = none) (ha : JA X [a] ts) (hs : starEach [a] X.env = [(false, eval a X.env)] := by rfl) : JI X tg (.Call (.Name "range" p) [a] [] pos) (dRange1 ts) := by
  refine (pi_range1 hg hm ha hs).imp fun σ H R hh => ?_
  obtain ⟨W, F, A, m, Qd, G, h, c⟩ := hh
  refine ⟨W, F, A, m, _, G, h, fun F1 A1 vs m1 H1 s1 p1 G1 q1 us r1 => ?_⟩
  split at q1
  · rename_i j
    obtain ⟨u, rfl, ru⟩ := rv1 r1
    have e : u = .int j := repB_int (H := H1) ru
    rw [e]
    exact ⟨j, rfl, q1.1.1, q1.1.2, c F1 A1 _ none m1 H1 s1 p1 G1 q1.2 _ (walks_range 0 j.toNat)⟩
  · exact q1.elim
theorem ji_range2 {a b : Expr} {p pos : Pos} (hg : Gl X "range") (hm : X.mg "range" = none) (ha : JA X [a, b] ts) (hs : starEach [a, b] X.env = [(false, eval a X.env), (false, eval b X.env)] := by rfl) (hs2 : starEach [b] X.env = [(false, eval b X.env)] := by rfl)
    : JI X tg (.Call (.Name "range" p) [a, b] [] pos) (dRange2 ts) := by
  refine (pi_range2 hg hm ha hs hs2).imp fun σ H R hh => ?_
  obtain ⟨W, F, A, m, Qd, G, h, c⟩ := hh
  refine ⟨W, F, A, m, _, G, h, fun F1 A1 vs m1 H1 s1 p1 G1 q1 us r1 => ?_⟩
  split at q1
  · rename_i i j
    obtain ⟨u, w, rfl, ru, rw'⟩ := rv2 r1
    have e : u = .int i := repB_int (H := H1) ru
    have e' : w = .int j := repB_int (H := H1) rw'
    rw [e, e']
    exact ⟨i, j, rfl, ⟨q1.1.1.1, q1.1.1.2, q1.1.2.1, q1.1.2.2⟩, c F1 A1 _ none m1 H1 s1 p1 G1 q1.2 _ (walks_range i (j - i).toNat)⟩
  · exact q1.elim

def enumD : Nat → List Dt → List Dt
  | _, [] => []
  | n, x :: xs => .tup [.int n, x] :: enumD (n + 1) xs
theorem enumD_len : ∀ (xs : List Dt) (n : Nat), (enumD n xs).length = xs.length
  | [], _ => rfl
  | x :: xs, n => by
    unfold enumD
    rw [List.length_cons, List.length_cons, enumD_len xs]
theorem enumD_get : ∀ (xs : List Dt) (n i : Nat) (y : Dt), (enumD n xs)[i]? = some y → ∃ x, xs[i]? = some x ∧ y = .tup [.int ((n + i : Nat) : Int), x]
  | [], _, i, y, h => by
    unfold enumD at h
    simp at h
  | x :: xs, n, 0, y, h => by
    unfold enumD at h
    have e := Option.some.inj h
    exact ⟨x, rfl, by rw [← e]; rfl⟩
  | x :: xs, n, i + 1, y, h => by
    unfold enumD at h
    obtain ⟨z, h1, h2⟩ := enumD_get xs (n + 1) i y h
    exact ⟨z, h1, by rw [h2, show n + 1 + i = n + (i + 1) by omega]⟩
theorem tup_laid {K : PySem.W.Frag} {W F : Hp} {A : List Addr} {m : M} {σ : L2.St} {H : Hp} {T : Addr} {ds : List Dt} {vs : List V} (G : Good K W F A m σ H) (n : H T = none) (r : Reps K F ds vs) : ∃ F2, Same F F2 ∧ Good K W F2 A m σ (upd H T (.tup vs)) ∧ Rep K F2 (.tup ds) (.ref T) := by
  have s := same_upd (o := .tup vs) (G.ext.free n)
  refine ⟨upd F T (.tup vs), s, G.laid n, ?_⟩
  simp only [Rep]
  exact ⟨T, vs, rfl, SqT.of upd_same, Reps.mono s r⟩
theorem walks_enum {K : PySem.W.Frag} {F : Hp} {A : List Addr} {a : Addr} {vs : List V} {xs : List Dt} (s : SqL K F a vs) (r : Reps K F xs vs) : Walks K (Ite K a) F A (enumD 0 xs) none where
  go := fun W F' A' m σ H i x sF p G _ hi => by
    obtain ⟨y, hy, rfl⟩ := enumD_get xs 0 i x hi
    obtain ⟨v, hv, rv⟩ := r.get hy
    have sq : SqL K H a vs := (sF.trans G.ext).seq s
    refine ⟨⟨vs, v, sq, hv⟩, fun u H' y => ?_⟩
    obtain ⟨T, w, rfl, nT, rfl, y⟩ := y
    have e := (y vs sq).symm.trans hv
    cases e
    rw [Nat.zero_add]
    exact tup_laid G nT (.cons rep_int (.cons (Rep.mono sF rv) .nil))
  stop := fun W F' A' m σ H sF p G _ => ⟨vs, (sF.trans G.ext).seq s, by rw [enumD_len, r.length]; exact Nat.le_refl _⟩
def dEnum (ts : DA) : DI := fun m Q => ts m fun vs m1 => match vs with
  | [.d (.lst xs)] => Q (enumD 0 xs) none m1
  | _ => False
theorem ji_enum {e : Expr} {p pos tpos : Pos} {elts : List Expr} {kk : Nat} (hg : Gl X "enumerate") (hm : X.mg "enumerate" = none) (ha : JA X [e] ts) (hs : starEach [e] X.env = [(false, eval e X.env)] := by rfl) :
    JI X (.Tuple elts kk tpos) (.Call (.Name "enumerate" p) [e] [] pos) (dEnum ts) := by
  refine (pi_enum hg hm ha hs).imp fun σ H R hh => ?_
  obtain ⟨W, F, A, m, Qd, G, h, c⟩ := hh
  refine ⟨W, F, A, m, _, G, h, fun F1 A1 vs m1 H1 s1 p1 G1 q1 us r1 => ?_⟩
  split at q1
  · rename_i xs
    obtain ⟨u, rfl, ru⟩ := rv1 r1
    have r' : Rep X.K F1 (.lst xs) u := ru
    simp only [Rep] at r'
    obtain ⟨a, ws, rfl, hs, rs⟩ := r'
    exact ⟨a, ws, rfl, .inl (rd_mono G1.ext hs), c F1 A1 _ none m1 H1 s1 p1 G1 q1 _ (walks_enum (.inl hs) rs)⟩
  · exact q1.elim
def zipD : List Dt → List Dt → List Dt
  | x :: xs, y :: ys => .tup [x, y] :: zipD xs ys
  | _, _ => []
theorem zipD_len : ∀ (xs ys : List Dt), (zipD xs ys).length = min xs.length ys.length
  | [], _ => by simp [zipD]
  | _ :: _, [] => by simp [zipD]
  | x :: xs, y :: ys => by
    unfold zipD
    rw [List.length_cons, zipD_len xs ys, List.length_cons, List.length_cons]
    omega
theorem zipD_get : ∀ (xs ys : List Dt) (i : Nat) (z : Dt), (zipD xs ys)[i]? = some z → ∃ x y, xs[i]? = some x ∧ ys[i]? = some y ∧ z = .tup [x, y]
  | [], _, i, z, h => by simp [zipD] at h
  | _ :: _, [], i, z, h => by simp [zipD] at h
  | x :: xs, y :: ys, 0, z, h => by
    unfold zipD at h
    exact ⟨x, y, rfl, rfl, (Option.some.inj h).symm⟩
  | x :: xs, y :: ys, i + 1, z, h => by
    unfold zipD at h
    exact zipD_get xs ys i z h
end

def dNext : DS := fun E m => E.nx m
def dSeq (t u : DS) : DS := fun E m => t ⟨fun m1 => u E m1, E.rt, E.bk, E.ct⟩ m
def dRet (t : DE) : DS := fun E m => t m fun v m1 => E.rt v m1
def dDo (t : DE) : DS := fun E m => t m fun _ m1 => E.nx m1
def dSet (i : Nat) (t : DE) : DS := fun E m => t m fun v m1 => E.nx ⟨m1.sl.set i (some v), m1.st⟩
def dAsg (t : DE) (g : Tgt) : DS := fun E m => t m fun v m1 => tgD g v m1 E.nx
def dIfS (c : DT) (t u : DS) : DS := fun E m => c m fun b m1 => if b = true then t E m1 else u E m1
def dWhile (c : DT) (b : DS) : DS := fun E m => ∃ W : Nat → M → Prop, (∃ n, W n m) ∧ ∀ n m, W n m →
  c m fun k m1 => if k = true then b ⟨fun m2 => ∃ n', n' < n ∧ W n' m2, E.rt, E.nx, fun m2 => ∃ n', n' < n ∧ W n' m2⟩ m1 else E.nx m1
def dLoop (g : Tgt) (b : DS) (all : List Dt) (lk : Option Nat) (E : DEnds) : List Dt → M → Prop
  | [], m => lockOk lk all m ∧ E.nx m
  | x :: xs, m => lockOk lk all m ∧ tgD g (.d x) m fun m1 => b ⟨dLoop g b all lk E xs, E.rt, E.nx, dLoop g b all lk E xs⟩ m1
def dFor (di : DI) (g : Tgt) (b : DS) : DS := fun E m => di m fun xs lk m1 => dLoop g b xs lk E xs m1
section
variable {X : Cx} {st : Stmt} {rest : List Stmt} {t u : DS} {e : Expr} {te : DE} {pos : Pos}
theorem js_nil : JSs X [] dNext := pss_nil.imp fun D σ H ⟨W, F, A, m, E, G, h, c⟩ => c.nx F A m σ H (Same.refl _) (pre_refl _) G h
theorem lift_seq {D : Ends} {σ : L2.St} {H : Hp} (h : liftS X.K (dSeq t u) D σ H) : tSeq (liftS X.K t) (liftS X.K u) D σ H := by
  obtain ⟨W, F, A, m, E, G, h, c⟩ := h
  exact ⟨W, F, A, m, _, G, h, ⟨fun F1 A1 m1 σ1 H1 s1 p1 G1 q1 => ⟨W, F1, A1, m1, E, G1, q1, c.mono s1 p1⟩, c.rt, c.bk, c.ct⟩⟩
theorem js_cons (h1 : JS X st t) (h2 : JSs X rest u) : JSs X (st :: rest) (dSeq t u) := (pss_cons h1 h2).imp fun _ _ _ h => lift_seq h
theorem js_one (h1 : JS X st t) : JSs X [st] t := pss_one h1
theorem js_ret (he : JE X e te) : JS X (.Return (some e) pos) (dRet te) := by
  refine (ps_ret he).imp fun D σ H hh => ?_
  obtain ⟨W, F, A, m, E, G, h, c⟩ := hh
  exact ⟨W, F, A, m, _, G, h, fun F1 A1 v m1 H1 s1 p1 G1 q1 u r1 => c.rt F1 A1 m1 σ H1 v u s1 p1 G1 r1 q1⟩
theorem js_do (he : JE X e te) (hs : swapsWith e none pos.line X.env = pure false := by rfl) : JS X (.Expr e pos) (dDo te) := by
  refine (ps_expr he hs).imp fun D σ H hh => ?_
  obtain ⟨W, F, A, m, E, G, h, c⟩ := hh
  exact ⟨W, F, A, m, _, G, h, fun F1 A1 v m1 H1 s1 p1 G1 q1 u r1 => c.nx F1 A1 m1 σ H1 s1 p1 G1 q1⟩
theorem lift_set {i : Nat} {D : Ends} {σ : L2.St} {H : Hp} (h : liftS X.K (dSet i te) D σ H) : tAsg (lift X.K te) (gName i) D σ H := by
  obtain ⟨W, F, A, m, E, G, h, c⟩ := h
  exact ⟨W, F, A, m, _, G, h, fun F1 A1 v m1 H1 s1 p1 G1 q1 u r1 => c.nx F1 A1 _ _ H1 s1 p1 (G1.store r1) q1⟩
theorem js_set {i : Nat} {x : Str} {pos' : Pos} (hN : X.N.Nodup) (hi : X.N[i]? = some x) (hx : Loc X.env.scope x) (he : JE X e te) (hs : swapsWith e (some (.Name x pos')) pos.line X.env = pure false := by rfl) (hf : X.fn x = true ∨ X.env.scope.names.lookup x = some .local := by first | exact .inl rfl | exact .inr rfl | assumption) :
    JS X (.Assign [.Name x pos'] e pos) (dSet i te) := (ps_set hN hi hx he hs hf).imp fun _ _ _ h => lift_set h
theorem js_asg {tg : Expr} {g : Tgt} (he : JE X e te) (hg : PG X tg (tgH X.K g)) (hs : swapsWithSole [tg] e pos.line X.env = pure false := by rfl) (hw : swappedStores [tg] e X.env = pure none := by rfl)
    (h1 : (assignEach [tg] X.env).map (·.2) = [assign tg X.env] := by rfl) : JS X (.Assign [tg] e pos) (dAsg te g) := by
  refine (ps_asg he hg hs hw h1).imp fun D σ H hh => ?_
  obtain ⟨W, F, A, m, E, G, h, c⟩ := hh
  exact ⟨W, F, A, m, _, G, h, fun F1 A1 v m1 H1 s1 p1 G1 q1 u r1 => tg_ok G1 r1 q1 fun m' σ' G' _ q' => c.nx F1 A1 m' σ' H1 s1 p1 G' q'⟩
def dPar (i j : Nat) (ts : DA) : DS := fun E m => ts m fun vs m1 => match vs with
  | [v, w] => E.nx ⟨(m1.sl.set i (some v)).set j (some w), m1.st⟩
  | _ => False
theorem js_par {i j : Nat} {x y : Str} {a b : Expr} {ts : DA} {px py pt : Pos} {kt k2 pt2} (hc : X.calm = true) (hN : X.N.Nodup) (hi : X.N[i]? = some x) (hj : X.N[j]? = some y) (hij : i ≠ j)
    (hx : X.env.scope.names.lookup x = some .local) (hy : X.env.scope.names.lookup y = some .local) (ha : JA X [a, b] ts)
    (hw : swappedStores [.Tuple [.Name x px, .Name y py] kt pt] (.Tuple [a, b] k2 pt2) X.env = pure (some [x, y]) := by rfl)
    (hs : swapsWithSole [.Tuple [.Name x px, .Name y py] kt pt] (.Tuple [a, b] k2 pt2) pos.line X.env = pure false := by rfl) :
    JS X (.Assign [.Tuple [.Name x px, .Name y py] kt pt] (.Tuple [a, b] k2 pt2) pos) (dPar i j ts) := by
  refine (ps_par hc hN hi hj hij hx hy ha hw hs).imp fun D σ H hh => ?_
  obtain ⟨W, F, A, m, E, G, h, c⟩ := hh
  refine ⟨W, F, A, m, _, G, h, fun F1 A1 vs m1 H1 s1 p1 G1 q1 us r1 => ?_⟩
  split at q1
  · rename_i v w
    obtain ⟨a1, b1, rfl, ra, rb⟩ := rv2 r1
    exact ⟨a1, b1, rfl, c.nx F1 A1 _ _ H1 s1 p1 ((G1.store ra).store rb) q1⟩
  · exact q1.elim
def dAug (i : Nat) (r : DR2) (te : DE) : DS := fun E m => match m.sl[i]? with
  | some (some (.d x)) => te m fun v m1 => onD v fun y => r x y fun z => E.nx ⟨m1.sl.set i (some (.d z)), m1.st⟩
  | _ => False
theorem js_if {c : Expr} {a b : List Stmt} {tc : DT} (hc : JT X c tc) (ha : JSs X a t) (hb : JSs X b u) : JS X (.If c a b pos) (dIfS tc t u) := by
  refine (ps_if hc ha hb).imp fun D σ H hh => ?_
  obtain ⟨W, F, A, m, E, G, h, c⟩ := hh
  refine ⟨W, F, A, m, _, G, h, fun F1 A1 v m1 H1 s1 p1 G1 q1 => ?_⟩
  cases v with
  | true => exact ⟨W, F1, A1, m1, E, G1, q1, c.mono s1 p1⟩
  | false => exact ⟨W, F1, A1, m1, E, G1, q1, c.mono s1 p1⟩
theorem js_while {c : Expr} {body : List Stmt} {tc : DT} {tb : DS} (hp : PassesOwn (model X.prog X.w) X.A X.env X.xe) (hc : JT X c tc) (hb : JSs X body tb) : JS X (.While c body [] pos) (dWhile tc tb) := by
  refine (ps_while hp hc hb).imp fun D σ H hh => ?_
  obtain ⟨W, F, A, m, E, G, h, c⟩ := hh
  obtain ⟨Wi, ⟨n0, w0⟩, turn⟩ := h
  refine ⟨fun n σ' H' => ∃ F' A' m', Same F F' ∧ A <+: A' ∧ Good X.K W F' A' m' σ' H' ∧ Wi n m', ⟨n0, F, A, m, Same.refl _, pre_refl _, G, w0⟩, ?_⟩
  rintro n σ1 H1 ⟨F1, A1, m1, s1, p1, G1, w1⟩
  refine ⟨W, F1, A1, m1, _, G1, turn n m1 w1, fun F2 A2 k m2 H2 s2 p2 G2 q2 => ?_⟩
  cases k with
  | false => exact c.nx F2 A2 m2 _ H2 (s1.trans s2) (p1.trans p2) G2 q2
  | true =>
    refine ⟨fun σ' H' => ∃ F' A' m', Same F F' ∧ A <+: A' ∧ Good X.K W F' A' m' σ' H' ∧ ∃ n', n' < n ∧ Wi n' m', fun σ' H' hN => ?_, ?_⟩
    · obtain ⟨F', A', m', s', p', G', n', hn, w'⟩ := hN
      exact ⟨n', hn, F', A', m', s', p', G', w'⟩
    · have c' := c.mono (s1.trans s2) (p1.trans p2)
      refine ⟨W, F2, A2, m2, _, G2, q2, ⟨fun F3 A3 m3 σ3 H3 s3 p3 G3 q3 => ⟨F3, A3, m3, (s1.trans s2).trans s3, (p1.trans p2).trans p3, G3, q3⟩, c'.rt, c'.nx, fun F3 A3 m3 σ3 H3 s3 p3 G3 q3 => ⟨F3, A3, m3, (s1.trans s2).trans s3, (p1.trans p2).trans p3, G3, q3⟩⟩⟩
theorem js_for {iter tg : Expr} {body : List Stmt} {di : DI} {g : Tgt} {tb : DS} (hp : PassesOwn (model X.prog X.w) X.A X.env X.xe) (hc : X.calm = true) (hi : JI X tg iter di) (hg : PG X tg (tgH X.K g)) (hb : JSs X body tb)
    (hs : ∀ x, foldedSetIterable iter X.env x = pure x := by intro _; rfl) : JS X (.For tg iter body [] pos) (dFor di g tb) := by
  refine (ps_for hp hc hi hg hb hs).imp fun D σ H hh => ?_
  obtain ⟨W, F, A, m, E, G, h, c⟩ := hh
  refine ⟨W, F, A, m, _, G, h, fun F1 A1 xs lk m1 H1 s1 p1 G1 q1 J w => ?_⟩
  refine ⟨fun i n σ' H' => ∃ F' A' m', Same F1 F' ∧ A1 <+: A' ∧ Good X.K W F' A' m' σ' H' ∧ i + n = xs.length ∧ dLoop g tb xs lk E (xs.drop i) m',
    ⟨xs.length, F1, A1, m1, Same.refl _, pre_refl _, G1, Nat.zero_add _, q1⟩, ?_⟩
  rintro i n σ2 H2 ⟨F2, A2, m2, s2, p2, G2, en, q2⟩
  by_cases hlt : i < xs.length
  · refine .inr ?_
    have ed : xs.drop i = xs[i] :: xs.drop (i + 1) := List.drop_eq_getElem_cons hlt
    rw [ed] at q2
    obtain ⟨hl, q2⟩ : lockOk lk xs m2 ∧ tgD g (.d xs[i]) m2 fun m1 => tb ⟨dLoop g tb xs lk E (xs.drop (i + 1)), E.rt, E.nx, dLoop g tb xs lk E (xs.drop (i + 1))⟩ m1 := q2
    obtain ⟨hgo, hy⟩ := w.go W F2 A2 m2 σ2 H2 i xs[i] s2 p2 G2 hl (List.getElem?_eq_getElem hlt)
    refine ⟨hgo, fun σ' H' => ∃ F' A' m', Same F1 F' ∧ A1 <+: A' ∧ Good X.K W F' A' m' σ' H' ∧ dLoop g tb xs lk E (xs.drop (i + 1)) m', fun σ' H' hN => ?_, fun v H3 y => ?_⟩
    · obtain ⟨F', A', m', s', p', G', q'⟩ := hN
      exact ⟨n - 1, by omega, F', A', m', s', p', G', by omega, q'⟩
    · obtain ⟨F3, s3, G3, r3⟩ := hy v H3 y
      refine tg_ok G3 (v := .d xs[i]) r3 q2 fun m' σ' G' _ q' => ?_
      have c' := c.mono (s1.trans (s2.trans s3)) (p1.trans p2)
      exact ⟨W, F3, A2, m', _, G', q', ⟨fun F4 A4 m4 σ4 H4 s4 p4 G4 q4 => ⟨F4, A4, m4, s2.trans (s3.trans s4), p2.trans p4, G4, q4⟩, c'.rt, c'.nx, fun F4 A4 m4 σ4 H4 s4 p4 G4 q4 => ⟨F4, A4, m4, s2.trans (s3.trans s4), p2.trans p4, G4, q4⟩⟩⟩
  · have e : i = xs.length := by omega
    subst e
    rw [List.drop_length] at q2
    obtain ⟨hl, q2⟩ : lockOk lk xs m2 ∧ E.nx m2 := q2
    exact .inl ⟨w.stop W F2 A2 m2 σ2 H2 s2 p2 G2 hl, c.nx F2 A2 m2 σ2 H2 (s1.trans s2) (p1.trans p2) G2 q2⟩
end
end RT

set_option maxRecDepth 100000
set_option maxHeartbeats 4000000
namespace RT
open PySem PySem.Spec PyProof.Rows L2
section
variable {X : Cx} {a b e : Expr} {es : List Expr} {ta tb t : DE} {ts : DA} {pos : Pos}

mutual
def toPy : Dt → PyData
  | .non => .none
  | .bl b => .bool b
  | .int i => .int i
  | .str s => .str s
  | .tup ds => .tuple (toPys ds)
  | .lst ds => .list (toPys ds)
def toPys : List Dt → List PyData
  | [] => []
  | d :: ds => toPy d :: toPys ds
end
mutual
theorem dp_of {K : PySem.W.Frag} {H : Hp} : ∀ {d : Dt} {v : V}, Rep K H d v → Dp K H v (toPy d)
  | .non, v, h => by
    simp only [Rep] at h
    rw [h]
    unfold toPy
    exact .non
  | .bl b, v, h => by
    simp only [Rep] at h
    rw [h]
    unfold toPy
    exact .bl b
  | .int i, v, h => by
    simp only [Rep] at h
    rw [h]
    unfold toPy
    exact .int i
  | .str s, v, h => by
    simp only [Rep] at h
    rw [h]
    unfold toPy
    exact .str s
  | .tup ds, v, h => by
    simp only [Rep] at h
    obtain ⟨a, vs, rfl, s, r⟩ := h
    unfold toPy
    exact .tup s (dps_of r)
  | .lst ds, v, h => by
    simp only [Rep] at h
    obtain ⟨a, vs, rfl, s, r⟩ := h
    unfold toPy
    exact .lst (.inl s) (dps_of r)
theorem dps_of {K : PySem.W.Frag} {H : Hp} : ∀ {ds : List Dt} {vs : List V}, Reps K H ds vs → DpAll K H vs (toPys ds)
  | [], vs, h => by
    simp only [Reps] at h
    rw [h]
    unfold toPys
    exact .nil
  | d :: ds, vs, h => by
    simp only [Reps] at h
    obtain ⟨v, r, rfl, h1, h2⟩ := h
    unfold toPys
    exact .cons (dp_of h1) (dps_of h2)
end
theorem rep_up {K : PySem.W.Frag} {F H : Hp} (s : Same F H) : ∀ {x : Dt} {u : V}, RepB K F H x u → Rep K H x u
  | .lst ds, u, h => by
    obtain ⟨a, vs, rfl, q, r⟩ := h
    simp only [Rep]
    exact ⟨a, vs, rfl, q, Reps.mono s r⟩
  | .tup ds, u, h => Rep.mono s (d := .tup ds) h
  | .non, u, h => Rep.mono s h
  | .bl _, u, h => Rep.mono s h
  | .int _, u, h => Rep.mono s h
  | .str _, u, h => Rep.mono s h
def eqD (x y : Dt) : Bool := PyData.eqv (toPy x) (toPy y)
def shD (x : Dt) : Prop := SeqAt.shaped (toPy x) = true
def rEq : DR2 := fun x y P => shD x ∧ shD y ∧ P (.bl (eqD x y))
def rNe : DR2 := fun x y P => shD x ∧ shD y ∧ P (.bl (!eqD x y))
theorem o_eq {k : Nat} (hr : GRoom k X.A) : OpD X (compareOp .Eq) rEq := ⟨_, op_eqD hr.hu, fun W F A m σ H x y u v P Q G rx ry q c =>
  ⟨_, _, dp_of (rep_up G.ext rx), dp_of (rep_up G.ext ry), q.1, q.2.1, c F H _ _ (Same.refl _) G rep_bl q.2.2⟩⟩
theorem o_ne {k : Nat} (hr : GRoom k X.A) : OpD X (compareOp .NotEq) rNe := ⟨_, op_neD hr.hu, fun W F A m σ H x y u v P Q G rx ry q c =>
  ⟨_, _, dp_of (rep_up G.ext rx), dp_of (rep_up G.ext ry), q.1, q.2.1, c F H _ _ (Same.refl _) G rep_bl q.2.2⟩⟩

theorem op_catR : OpR X (binaryOp .Add) (fun x y H Q => ∃ l b xs zs, x = .ref l ∧ y = .ref b ∧ Rd H l (.lst xs) ∧ Rd H b (.lst zs) ∧ xs.length + zs.length ≤ sizeLine ∧ ∀ p, H p = none → Q (.ref p) (upd H p (.lst (xs ++ zs)))) := by
  intro pins s σ H x y v u Q I rx ry h
  obtain ⟨l, b, xs, zs, rfl, rfl, hH, hB, hz, q⟩ := h
  cases rx
  cases ry
  obtain ⟨z, its, n, r, e⟩ := hH.ok I.hok
  obtain ⟨z2, its2, n2, r2, e2⟩ := hB.ok I.hok
  refine PySem.P.add_list e e2 ?_ (by rw [List.size_toArray, List.size_toArray, ← r.length, ← r2.length]; omega)
  have ea : its.toArray ++ its2.toArray = (its ++ its2).toArray := by simp
  rw [ea]
  exact ⟨.ref _, _, I.lnew (t' := s.toks) (r.append r2) (by rw [List.length_append]; omega), rfl, q _ I.fresh⟩
theorem ll_elim {x y : Dt} {P : List Dt → List Dt → Prop} (h : match x, y with
  | .lst xs, .lst ys => P xs ys
  | _, _ => False) : ∃ xs ys, x = .lst xs ∧ y = .lst ys ∧ P xs ys := by
  split at h
  · exact ⟨_, _, rfl, rfl, h⟩
  · exact h.elim
def dCat (own : Bool) (ta tb : DE) : DE := fun m Q => ta m fun v m1 => tb m1 fun w m2 => onV m2 v fun x => onV m2 w fun y => match x, y with
  | .lst xs, .lst ys => xs.length + ys.length ≤ sizeLine ∧ if own = true then Q (.c m2.st.length) ⟨m2.sl, m2.st ++ [.lst (xs ++ ys)]⟩ else Q (.d (.lst (xs ++ ys))) m2
  | _, _ => False
theorem je_cat (own : Bool) (ha : JE X a ta) (hb : JE X b tb) : JE X (.BinOp a .Add b pos) (dCat own ta tb) := by
  refine (pe_op op_catR ha hb).imp fun σ H Q hh => ?_
  obtain ⟨W, F, A, m, Qd, G, h, c⟩ := hh
  refine ⟨W, F, A, m, _, G, h, fun F1 A1 v m1 H1 s1 p1 G1 q1 u r1 => ⟨W, F1, A1, m1, _, G1, q1, fun F2 A2 w m2 H2 s2 p2 G2 q2 u2 r2 => ?_⟩⟩
  obtain ⟨x, ex, q2⟩ := onV_elim q2
  obtain ⟨y, ey, q2⟩ := onV_elim q2
  have rx := G2.view (RepV.mono s2 p2 r1) ex
  have ry := G2.view r2 ey
  obtain ⟨xs, ys, rfl, rfl, q2⟩ := ll_elim q2
  obtain ⟨l, vs, rfl, hl, rl⟩ := rx
  obtain ⟨b, ws, rfl, hb, rb⟩ := ry
  refine ⟨l, b, vs, ws, rfl, rfl, hl, hb, by rw [← rl.length, ← rb.length]; exact q2.1, fun p np => ?_⟩
  have q := q2.2
  cases own with
  | true => exact c F2 (A2 ++ [p]) _ _ _ (s1.trans s2) (p1.trans (p2.trans ⟨[p], rfl⟩)) (G2.own np (rl.append rb)) q _ ⟨p, by rw [← G2.len]; simp, rfl⟩
  | false =>
    have s3 := same_upd (o := .lst (vs ++ ws)) (G2.ext.free np)
    refine c (upd F2 p (.lst (vs ++ ws))) A2 _ m2 _ (s1.trans (s2.trans s3)) (p1.trans p2) (G2.laid np) q _ ?_
    show Rep X.K _ (.lst (xs ++ ys)) _
    simp only [Rep]
    exact ⟨p, _, rfl, Rd.of upd_same, Reps.mono s3 (rl.append rb)⟩
def rCatT : DR2 := fun x y P => match x, y with
  | .tup xs, .tup ys => xs.length + ys.length ≤ sizeLine ∧ P (.tup (xs ++ ys))
  | _, _ => False
theorem reps_nil {K : PySem.W.Frag} {F : Hp} {ds : List Dt} {vs : List V} (r : Reps K F ds vs) (h : vs = []) : ds = [] := by
  have := r.length
  rw [h] at this
  exact List.eq_nil_of_length_eq_zero this
theorem o_catT : OpD X (binaryOp .Add) rCatT := ⟨_, op_catA, fun W F A m σ H x y u v P Q G rx ry q c => by
  unfold rCatT at q
  split at q
  · rename_i xs ys
    obtain ⟨l, vs, rfl, hl, rl⟩ := repB_tup rx
    obtain ⟨b, ws, rfl, hb, rb⟩ := repB_tup ry
    refine ⟨l, b, vs, ws, rfl, rfl, seqT_mono G.ext hl, seqT_mono G.ext hb, by rw [← rl.length, ← rb.length]; exact q.1, fun e => ?_, fun e e2 => ?_, fun _ _ p np => ?_⟩
    · have e1 := reps_nil rl e
      subst e1
      exact c F H _ _ (Same.refl _) G ry q.2
    · have e1 := reps_nil rb e2
      subst e1
      have q2 := q.2
      rw [List.append_nil] at q2
      exact c F H _ _ (Same.refl _) G rx q2
    · obtain ⟨F2, s2, G2, r2⟩ := tup_laid G np (rl.append rb)
      exact c F2 _ _ _ s2 G2 r2 q.2
  · exact q.elim⟩

def onVs (m : M) : List Vl → (List Dt → Prop) → Prop
  | [], k => k []
  | v :: r, k => onV m v fun x => onVs m r fun xs => k (x :: xs)
def RepBs (K : PySem.W.Frag) (F H : Hp) : List Dt → List V → Prop
  | [], us => us = []
  | d :: ds, us => ∃ u r, us = u :: r ∧ RepB K F H d u ∧ RepBs K F H ds r
theorem onVs_elim {K : PySem.W.Frag} {W F : Hp} {A : List Addr} {m : M} {σ : L2.St} {H : Hp} (G : Good K W F A m σ H) : ∀ {vs : List Vl} {us : List V} {k : List Dt → Prop}, RepVs K F A vs us → onVs m vs k → ∃ xs, RepBs K F H xs us ∧ k xs
  | [], us, k, r, h => by
    have e : us = [] := r
    exact ⟨[], e, h⟩
  | v :: vs, us, k, r, h => by
    obtain ⟨u, us', rfl, r1, r2⟩ := r
    obtain ⟨x, ex, h⟩ := onV_elim h
    obtain ⟨xs, rs, h⟩ := onVs_elim G r2 h
    exact ⟨x :: xs, ⟨u, us', rfl, G.view r1 ex, rs⟩, h⟩
abbrev DRB := List Dt → (Dt → Prop) → Prop
def dBi (r : DRB) (ts : DA) : DE := fun m Q => ts m fun vs m1 => onVs m1 vs fun xs => r xs fun z => Q (.d z) m1
def BiD (X : Cx) (f : Value) (r : DRB) : Prop := ∃ R, CallR X f R ∧ ∀ (W F : Hp) (A : List Addr) (m : M) (σ : L2.St) (H : Hp) (xs : List Dt) (us : List V) (P : Dt → Prop) (Q : VK), Good X.K W F A m σ H → RepBs X.K F H xs us → r xs P →
    (∀ F' H' z w, Same F F' → Good X.K W F' A m σ H' → Rep X.K F' z w → P z → Q w H') → R us H Q
theorem lift_bi {K : PySem.W.Frag} {R : List V → Hp → VK → Prop} {r : DRB} (hR : ∀ (W F : Hp) (A : List Addr) (m : M) (σ : L2.St) (H : Hp) (xs : List Dt) (us : List V) (P : Dt → Prop) (Q : VK), Good K W F A m σ H → RepBs K F H xs us → r xs P →
    (∀ F' H' z w, Same F F' → Good K W F' A m σ H' → Rep K F' z w → P z → Q w H') → R us H Q) {σ : L2.St} {H : Hp} {Q : VK} (h : lift K (dBi r ts) σ H Q) : tCB R (liftA K ts) σ H Q := by
  obtain ⟨W, F, A, m, Qd, G, h, c⟩ := h
  refine ⟨W, F, A, m, _, G, h, fun F1 A1 vs m1 H1 s1 p1 G1 q1 us r1 => ?_⟩
  obtain ⟨xs, rs, q⟩ := onVs_elim G1 r1 q1
  exact hR W F1 A1 m1 σ H1 xs us _ Q G1 rs q fun F' H' z w s' G' rz pz => c F' A1 (.d z) m1 H' (s1.trans s') p1 G' pz w rz
theorem je_bi {x : Str} {id : String} {r : DRB} {p : Pos} (hc : BiD X (.builtin id) r) (hg : Gl X x) (hm : X.mg x = none) (hv : bootBuiltins x = some (.builtin id)) (ha : JA X (e :: es) ts) (hn : x ≠ "__name__" := by decide) (hdb : (x == ("__debug__" : Str)) = false := by decide)
    (he : starEach (e :: es) X.env = (false, eval e X.env) :: starEach es X.env := by rfl) (hpl : (backTo pos (starEach es X.env)).any (·.1) = false := by rfl) : JE X (.Call (.Name x p) (e :: es) [] pos) (dBi r ts) := by
  obtain ⟨R, hC, hR⟩ := hc
  exact (pe_callB hC hg hm hv ha hn hdb he hpl).imp fun _ _ _ h => lift_bi hR h
theorem je_bty {x : Str} {T : String} {r : DRB} {p : Pos} (hc : BiD X (.type T) r) (hg : Gl X x) (hm : X.mg x = none) (hv : bootBuiltins x = some (.type T)) (ha : JA X (e :: es) ts) (hn : x ≠ "__name__" := by decide) (hdb : (x == ("__debug__" : Str)) = false := by decide)
    (he : starEach (e :: es) X.env = (false, eval e X.env) :: starEach es X.env := by rfl) (hpl : (backTo pos (starEach es X.env)).any (·.1) = false := by rfl) : JE X (.Call (.Name x p) (e :: es) [] pos) (dBi r ts) := by
  obtain ⟨R, hC, hR⟩ := hc
  exact (pe_callTy hC hg hm hv ha hn hdb he hpl).imp fun _ _ _ h => lift_bi hR h
theorem rb1 {K : PySem.W.Frag} {F H : Hp} {x : Dt} {us : List V} (r : RepBs K F H [x] us) : ∃ u, us = [u] ∧ RepB K F H x u := by
  obtain ⟨u, r', rfl, h1, h2⟩ := r
  have e : r' = [] := h2
  rw [e]
  exact ⟨u, rfl, h1⟩
def bLen : DRB := fun xs P => match xs with
  | [.lst ys] => P (.int ys.length)
  | [.tup ys] => P (.int ys.length)
  | [.str s] => s.length ≤ sizeLine ∧ P (.int s.length)
  | _ => False
theorem b_len : BiD X (.builtin "len") bLen := ⟨_, L2.call_len, fun W F A m σ H xs us P Q G rs q c => by
  unfold bLen at q
  split at q
  · obtain ⟨u, rfl, ru⟩ := rb1 rs
    obtain ⟨l, vs, rfl, hl, rl⟩ := ru
    rw [rl.length] at q
    exact ⟨_, vs.length, rfl, .inl ⟨vs, .inl hl, rfl⟩, c F H _ _ (Same.refl _) G rep_int q⟩
  · obtain ⟨u, rfl, ru⟩ := rb1 rs
    obtain ⟨l, vs, rfl, hl, rl⟩ := repB_tup ru
    rw [rl.length] at q
    exact ⟨_, vs.length, rfl, .inr ⟨vs, seqT_mono G.ext hl, rfl⟩, c F H _ _ (Same.refl _) G rep_int q⟩
  · obtain ⟨u, rfl, ru⟩ := rb1 rs
    rw [repB_str ru]
    exact ⟨_, _, rfl, ⟨q.1, rfl⟩, c F H _ _ (Same.refl _) G rep_int q.2⟩
  · exact q.elim⟩
def bAbs : DRB := fun xs P => match xs with
  | [.int i] => P (.int (if i < 0 then -i else i))
  | _ => False
theorem b_abs : BiD X (.builtin "abs") bAbs := ⟨_, L2.call_abs, fun W F A m σ H xs us P Q G rs q c => by
  unfold bAbs at q
  split at q
  · obtain ⟨u, rfl, ru⟩ := rb1 rs
    rw [repB_int ru]
    exact ⟨_, rfl, c F H _ _ (Same.refl _) G rep_int q⟩
  · exact q.elim⟩
def bInt : DRB := fun xs P => match xs with
  | [.int i] => P (.int i)
  | [.bl k] => P (.int (if k then 1 else 0))
  | _ => False
theorem b_int : BiD X (.type "int") bInt := ⟨_, L2.call_int1, fun W F A m σ H xs us P Q G rs q c => by
  unfold bInt at q
  split at q
  · obtain ⟨u, rfl, ru⟩ := rb1 rs
    rw [repB_int ru]
    exact .inl ⟨_, rfl, c F H _ _ (Same.refl _) G rep_int q⟩
  · obtain ⟨u, rfl, ru⟩ := rb1 rs
    rw [repB_bl ru]
    exact .inr ⟨_, rfl, c F H _ _ (Same.refl _) G rep_int q⟩
  · exact q.elim⟩
def bTuple : DRB := fun xs P => match xs with
  | [.lst ys] => P (.tup ys)
  | [.tup ys] => P (.tup ys)
  | _ => False
theorem lst_laid {K : PySem.W.Frag} {W F : Hp} {A : List Addr} {m : M} {σ : L2.St} {H : Hp} {T : Addr} {ds : List Dt} {vs : List V} (G : Good K W F A m σ H) (n : H T = none) (r : Reps K F ds vs) : ∃ F2, Same F F2 ∧ Good K W F2 A m σ (upd H T (.lst vs)) ∧ Rep K F2 (.lst ds) (.ref T) := by
  have s := same_upd (o := .lst vs) (G.ext.free n)
  refine ⟨upd F T (.lst vs), s, G.laid n, ?_⟩
  simp only [Rep]
  exact ⟨T, vs, rfl, Rd.of upd_same, Reps.mono s r⟩
theorem b_tuple : BiD X (.type "tuple") bTuple := ⟨_, L2.call_tuple_of, fun W F A m σ H xs us P Q G rs q c => by
  unfold bTuple at q
  split at q
  · obtain ⟨u, rfl, ru⟩ := rb1 rs
    obtain ⟨l, vs, rfl, hl, rl⟩ := ru
    refine ⟨l, vs, rfl, .inl ⟨.inl hl, fun p np => ?_⟩⟩
    obtain ⟨F2, s2, G2, r2⟩ := tup_laid G np rl
    exact c F2 _ _ _ s2 G2 r2 q
  · obtain ⟨u, rfl, ru⟩ := rb1 rs
    have ru' := ru
    obtain ⟨l, vs, rfl, hl, rl⟩ := repB_tup ru
    exact ⟨l, vs, rfl, .inr ⟨seqT_mono G.ext hl, c F H _ _ (Same.refl _) G ru' q⟩⟩
  · exact q.elim⟩
def sumI : List Dt → Option Int
  | [] => some 0
  | .int i :: r => (sumI r).map (i + ·)
  | _ :: _ => none
theorem sumI_of {K : PySem.W.Frag} {F : Hp} : ∀ {ds : List Dt} {vs : List V} {n : Int}, Reps K F ds vs → sumI ds = some n → ∃ ns : List Int, vs = ns.map V.int ∧ ns.sum = n
  | [], vs, n, r, h => by
    simp only [Reps] at r
    unfold sumI at h
    cases h
    exact ⟨[], by rw [r]; rfl, rfl⟩
  | d :: ds, vs, n, r, h => by
    simp only [Reps] at r
    obtain ⟨v, vs', rfl, r1, r2⟩ := r
    cases d with
    | int i =>
      unfold sumI at h
      cases q : sumI ds with
      | none =>
        rw [q] at h
        cases h
      | some k =>
        rw [q] at h
        have e : i + k = n := Option.some.inj h
        obtain ⟨ns, e1, e2⟩ := sumI_of r2 q
        simp only [Rep] at r1
        exact ⟨i :: ns, by rw [r1, e1]; rfl, by rw [List.sum_cons, e2, e]⟩
    | _ => simp [sumI] at h
def bSum : DRB := fun xs P => match xs with
  | [.lst ys] => match sumI ys with
    | some n => P (.int n)
    | none => False
  | _ => False
theorem b_sum (hc : X.calm = true) : BiD X (.builtin "sum") bSum := ⟨_, cr_sum hc, fun W F A m σ H xs us P Q G rs q c => by
  unfold bSum at q
  split at q
  · obtain ⟨u, rfl, ru⟩ := rb1 rs
    obtain ⟨l, vs, rfl, hl, rl⟩ := ru
    split at q
    · rename_i n e
      obtain ⟨ns, rfl, es⟩ := sumI_of rl e
      refine ⟨l, ns, rfl, .inl hl, ?_⟩
      rw [es]
      exact c F H _ _ (Same.refl _) G rep_int q
    · exact q.elim
  · exact q.elim⟩

inductive Ty where
  | tuple | int | bool | list | str
def Ty.name : Ty → String
  | .tuple => "tuple"
  | .int => "int"
  | .bool => "bool"
  | .list => "list"
  | .str => "str"
end
end RT

set_option maxRecDepth 100000
set_option maxHeartbeats 4000000
namespace RT
open PySem PySem.Spec PyProof.Rows L2
section
variable {X : Cx} {a b e o : Expr} {es : List Expr} {ta tb t to : DE} {ts : DA} {pos : Pos}

abbrev DO := M → (Option Int → M → Prop) → Prop
def liftO (K : PySem.W.Frag) (t : DO) : TO := fun σ H Q => ∃ W F A m Qd, Good K W F A m σ H ∧ t m Qd ∧ After K W F A σ Qd fun _ _ b H' => Q b H'
abbrev JO (X : Cx) (e : Option Expr) (t : DO) : Prop := PO X e (liftO X.K t)
theorem _root_.L2.PO.imp {X : Cx} {e : Option Expr} {t t' : TO} (h : PO X e t) (f : ∀ σ H Q, t' σ H Q → t σ H Q) : PO X e t' := ⟨fun pins s σ H Q I q => h.run pins s σ H Q I (f _ _ _ q)⟩
def dNoP : DO := fun m Q => Q none m
def dPart (t : DE) : DO := fun m Q => t m fun v m1 => match v with
  | .d (.int i) => Q (some i) m1
  | _ => False
theorem jo_none : JO X none dNoP := po_none.imp fun σ H Q ⟨W, F, A, m, Qd, G, h, c⟩ => c F A none m H (Same.refl _) (pre_refl _) G h
theorem int_elim {v : Vl} {P : Int → Prop} (h : match v with
  | .d (.int i) => P i
  | _ => False) : ∃ i, v = .d (.int i) ∧ P i := by
  split at h
  · exact ⟨_, rfl, h⟩
  · exact h.elim
theorem jo_some (h : JE X e t) : JO X (some e) (dPart t) := by
  refine (po_some h).imp fun σ H Q hh => ?_
  obtain ⟨W, F, A, m, Qd, G, h, c⟩ := hh
  refine ⟨W, F, A, m, _, G, h, fun F1 A1 v m1 H1 s1 p1 G1 q1 u r1 => ?_⟩
  obtain ⟨i, rfl, q⟩ := int_elim q1
  exact ⟨i, repB_int (H := H1) r1, c F1 A1 _ m1 H1 s1 p1 G1 q⟩
def cutD (xs : List Dt) (lo hi : Option Int) : List Dt := (xs.drop (HT.sIx xs.length 0 lo)).take (HT.sIx xs.length xs.length hi - HT.sIx xs.length 0 lo)
theorem reps_cut {K : PySem.W.Frag} {F : Hp} {xs : List Dt} {vs : List V} (r : Reps K F xs vs) (lo hi : Option Int) : Reps K F (cutD xs lo hi) (cutV vs lo hi) := by
  unfold cutD cutV
  rw [r.length]
  exact (r.drop _).take _
theorem cut_whole {K : PySem.W.Frag} {F : Hp} {xs : List Dt} {vs : List V} (r : Reps K F xs vs) {lo hi : Option Int} (h : HT.sIx vs.length 0 lo = 0 ∧ HT.sIx vs.length vs.length hi = vs.length) : cutD xs lo hi = xs := by
  unfold cutD
  rw [r.length, h.1, h.2, ← r.length]
  simp
def dSl (own : Bool) (t : DE) (lo hi : DO) : DE := fun m Q => t m fun v m1 => lo m1 fun l m2 => hi m2 fun h m3 => onV m3 v fun x => match x with
  | .lst xs => if own = true then Q (.c m3.st.length) ⟨m3.sl, m3.st ++ [.lst (cutD xs l h)]⟩ else Q (.d (.lst (cutD xs l h))) m3
  | .tup xs => Q (.d (.tup (cutD xs l h))) m3
  | _ => False
theorem je_sl (own : Bool) {lo hi : Option Expr} {tl th : DO} {p2 : Pos} (he : JE X e t) (hl : JO X lo tl) (hu : JO X hi th) : JE X (.Subscript e (.Slice lo hi none p2) pos) (dSl own t tl th) := by
  refine (pe_slice (sl_list.or sl_tupA) he hl hu).imp fun σ H Q hh => ?_
  obtain ⟨W, F, A, m, Qd, G, h, c⟩ := hh
  refine ⟨W, F, A, m, _, G, h, fun F1 A1 v m1 H1 s1 p1 G1 q1 u r1 => ⟨W, F1, A1, m1, _, G1, q1, fun F2 A2 l m2 H2 s2 p2 G2 q2 => ⟨W, F2, A2, m2, _, G2, q2, fun F3 A3 h m3 H3 s3 p3 G3 q3 => ?_⟩⟩⟩
  obtain ⟨x, ex, q3⟩ := onV_elim q3
  have rx := G3.view (RepV.mono (s2.trans s3) (p2.trans p3) r1) ex
  have s13 := s1.trans (s2.trans s3)
  have p13 := p1.trans (p2.trans p3)
  cases x with
  | lst xs =>
    obtain ⟨a, vs, rfl, hd, rs⟩ := rx
    refine .inl ⟨a, vs, rfl, .inl hd, fun p np => ?_⟩
    have q4 : if own = true then Qd (.c m3.st.length) ⟨m3.sl, m3.st ++ [.lst (cutD xs l h)]⟩ else Qd (.d (.lst (cutD xs l h))) m3 := q3
    have rc := reps_cut rs l h
    cases own with
    | true => exact c F3 (A3 ++ [p]) _ _ _ s13 (p13.trans ⟨[p], rfl⟩) (G3.own np rc) q4 _ ⟨p, by rw [← G3.len]; simp, rfl⟩
    | false =>
      obtain ⟨F4, s4, G4, r4⟩ := lst_laid G3 np rc
      exact c F4 A3 _ m3 _ (s13.trans s4) p13 G4 q4 _ r4
  | tup xs =>
    have rx' := rx
    obtain ⟨a, vs, rfl, hd, rs⟩ := repB_tup rx
    refine .inr ⟨a, vs, rfl, seqT_mono G3.ext hd, fun hw => ?_, fun hw p np => ?_⟩
    · have q4 : Qd (.d (.tup (cutD xs l h))) m3 := q3
      rw [cut_whole rs hw] at q4
      exact c F3 A3 _ m3 _ s13 p13 G3 q4 _ rx'
    · obtain ⟨F4, s4, G4, r4⟩ := tup_laid G3 np (reps_cut rs l h)
      exact c F4 A3 _ m3 _ (s13.trans s4) p13 G4 q3 _ r4
  | _ => exact (show False from q3).elim

abbrev MOp := List Dt → List Dt → (List Dt → Dt → Prop) → Prop
def dMeth (op : MOp) (to : DE) (ts : DA) : DE := fun m Q => to m fun v m1 => match v with
  | .c k => (∃ zs, m1.st[k]? = some (.lst zs)) ∧ ts m1 fun vs m2 => onDs vs fun ys => onC m2.st k fun xs => op xs ys fun xs' r => Q (.d r) ⟨m2.sl, m2.st.set k (.lst xs')⟩
  | _ => False
def MetD (X : Cx) (id : String) (op : MOp) : Prop := ∃ R, MtR X id R ∧ ∀ (F H : Hp) (a : Addr) (xs ys : List Dt) (vs us : List V) (P : List Dt → Dt → Prop) (Q : VK), H a = some (.lst vs) → Reps X.K F xs vs → Reps X.K F ys us → op xs ys P →
  (∀ xs' ws r u, Reps X.K F xs' ws → Rep X.K F r u → P xs' r → Q u (upd H a (.lst ws))) → R (.ref a) us H Q
theorem cell_elim {v : Vl} {P : Nat → Prop} (h : match v with
  | .c k => P k
  | _ => False) : ∃ k, v = .c k ∧ P k := by
  split at h
  · exact ⟨_, rfl, h⟩
  · exact h.elim
theorem je_meth {op : MOp} {id : String} {name : Str} {apos cpos : Pos} (slot : Slot "list" name id) (hty : typeOf (.builtin id) = pure (.type "method_descriptor")) (hm : MetD X id op) (ho : JE X o to) (ha : JA X (e :: es) ts)
    (hbase : attributeBase o name X.env (eval o X.env) = eval o X.env := by rfl)
    (hfew : ((backTo cpos (starEach (e :: es) X.env)).all (fun x => !x.1) && (backToKw cpos (keywordEach [] X.env)).all (fun x => x.1.isSome)
      && decide ((e :: es).length + ([] : List Keyword).length + (if ([] : List Keyword).isEmpty then 0 else 1) < 30)) = true := by rfl)
    (hline : (apos.endLine == cpos.line) = true := by rfl) (hs : starEach (e :: es) X.env = (false, eval e X.env) :: starEach es X.env := by rfl) (hplain : (backTo cpos (starEach es X.env)).any (·.1) = false := by rfl) :
    JE X (.Call (.Attribute o name apos) (e :: es) [] cpos) (dMeth op to ts) := by
  obtain ⟨R, hR, hv⟩ := hm
  refine (pe_bm PySem.F.plainAttrs_list slot hty hR ho ha hbase hfew hline hs hplain).imp fun σ H Q hh => ?_
  obtain ⟨W, F, A, m, Qd, G, h, c⟩ := hh
  refine ⟨W, F, A, m, _, G, h, fun F1 A1 v m1 H1 s1 p1 G1 q1 u r1 => ?_⟩
  obtain ⟨k, rfl, ⟨zs, ez⟩, q1⟩ := cell_elim q1
  obtain ⟨a, ha', rfl⟩ := r1
  obtain ⟨a', ws, h1, h2, _, _⟩ := G1.st k zs ez
  rw [ha'] at h1
  cases h1
  refine ⟨.inl ⟨rfl, _, SqL.of h2⟩, W, F1, A1, m1, _, G1, q1, fun F2 A2 vs m2 H2 s2 p2 G2 q2 us r2 => ?_⟩
  obtain ⟨ys, rfl, q3⟩ := onDs_elim q2
  obtain ⟨xs, ex, q2⟩ := onC_elim q3
  obtain ⟨a', vs', g1, g2, g3, _⟩ := G2.st k xs ex
  obtain ⟨_, hka, ek⟩ := RepV.mono (K := X.K) s2 p2 (show RepV X.K F1 A1 (.c k) (.ref a) from ⟨a, ha', rfl⟩)
  cases ek
  rw [hka] at g1
  cases g1
  exact hv F2 H2 a xs ys vs' us _ Q g2 g3 (reps_of r2) q2 fun xs' ws r u rw' ru pq => c F2 A2 (.d r) _ _ (s1.trans s2) (p1.trans p2) (G2.write ex hka rw') pq u ru
theorem reps1 {K : PySem.W.Frag} {F : Hp} {y : Dt} {us : List V} (r : Reps K F [y] us) : ∃ u, us = [u] ∧ Rep K F y u := by
  simp only [Reps] at r
  obtain ⟨u, r', rfl, h1, rfl⟩ := r
  exact ⟨u, rfl, h1⟩
def mAppend : MOp := fun xs ys P => match ys with
  | [y] => xs.length < sizeLine ∧ P (xs ++ [y]) .non
  | _ => False
theorem m_append : MetD X "list.append" mAppend := ⟨_, mt_append, fun F H a xs ys vs us P Q hH r r' q c => by
  unfold mAppend at q
  split at q
  · obtain ⟨u, rfl, ru⟩ := reps1 r'
    exact ⟨a, vs, u, rfl, rfl, hH, by rw [← r.length]; exact q.1, c _ _ .non .non (r.append (.cons ru .nil)) rep_non q.2⟩
  · exact q.elim⟩
def onJ (o : Option Nat) (P : Nat → Prop) : Prop := match o with
  | some j => P j
  | none => False
theorem onJ_elim {o : Option Nat} {P : Nat → Prop} (h : onJ o P) : ∃ j, o = some j ∧ P j := by
  cases o with
  | none => exact h.elim
  | some j => exact ⟨j, rfl, h⟩
def dSetIx (te to ti : DE) : DS := fun E m => te m fun v m1 => onD v fun d => to m1 fun w m2 => ti m2 fun u m3 => match w with
  | .c k => match u with
    | .d (.int i) => onC m3.st k fun xs => onJ (ixN xs.length i) fun j => E.nx ⟨m3.sl, m3.st.set k (.lst (xs.set j d))⟩
    | _ => False
  | _ => False
theorem js_setIx {te ti : DE} {tg : Expr} (he : JE X e te) (hg : PG X tg (gSub (lift X.K to) (lift X.K ti) rSetL))
    (hs : swapsWithSole [tg] e pos.line X.env = pure false := by rfl) (hw : swappedStores [tg] e X.env = pure none := by rfl)
    (h1 : (assignEach [tg] X.env).map (·.2) = [assign tg X.env] := by rfl) : JS X (.Assign [tg] e pos) (dSetIx te to ti) := by
  refine (ps_asg he hg hs hw h1).imp fun D σ H hh => ?_
  obtain ⟨W, F, A, m, E, G, h, c⟩ := hh
  refine ⟨W, F, A, m, _, G, h, fun F1 A1 v m1 H1 s1 p1 G1 q1 u r1 => ?_⟩
  obtain ⟨d, rfl, q1⟩ := onD_elim q1
  refine ⟨W, F1, A1, m1, _, G1, q1, fun F2 A2 w m2 H2 s2 p2 G2 q2 u2 r2 => ⟨W, F2, A2, m2, _, G2, q2, fun F3 A3 z m3 H3 s3 p3 G3 q3 u3 r3 => ?_⟩⟩
  obtain ⟨k, rfl, q3⟩ := cell_elim q3
  obtain ⟨i, rfl, q3⟩ := int_elim q3
  obtain ⟨xs, ex, q3⟩ := onC_elim q3
  obtain ⟨j, ej, q3⟩ := onJ_elim q3
  · obtain ⟨a, hka, rfl⟩ := RepV.mono s3 p3 r2
    obtain ⟨a', vs, g1, g2, g3, _⟩ := G3.st k xs ex
    rw [hka] at g1
    cases g1
    refine ⟨a, vs, i, j, rfl, repB_int (H := H3) r3, g2, by rw [← g3.length]; exact ej, ?_⟩
    have rd : Rep X.K F3 d u := Rep.mono (s2.trans s3) r1
    exact c.nx F3 A3 _ σ _ (s1.trans (s2.trans s3)) (p1.trans (p2.trans p3)) (G3.write ex hka (Reps.set rd j g3)) q3
end

def dLcGo (sl : List (Option Vl)) (slw : List (Option Vl)) (g : Tgt) (tt : DT) (te : DE) (all : List Dt) (lk : Option Nat) (K : List Dt → M → Prop) : List Dt → List Dt → List Cell → Prop
  | [], acc, st => lockOk lk all ⟨sl, st⟩ ∧ K acc ⟨sl, st⟩
  | x :: xs, acc, st => lockOk lk all ⟨sl, st⟩ ∧ tgD g (.d x) ⟨slw, st⟩ fun m1 => tt m1 fun b m2 => if b = true then te m2 fun v m3 => onD v fun d => acc.length < sizeLine ∧ dLcGo sl slw g tt te all lk K xs (acc ++ [d]) m3.st
    else dLcGo sl slw g tt te all lk K xs acc m2.st
def wipeD (sl : List (Option Vl)) : List Nat → List (Option Vl)
  | [] => sl
  | v :: vs => (wipeD sl vs).set v none
def dYes : DT := fun m Q => Q true m
def dLc (own : Bool) (di : DI) (g : Tgt) (tt : DT) (te : DE) (vs : List Nat) : DE := fun m Q => di m fun xs lk m1 => dLcGo m1.sl (wipeD m1.sl vs) g tt te xs lk (fun acc m2 => if own = true then Q (.c m2.st.length) ⟨m2.sl, m2.st ++ [.lst acc]⟩ else Q (.d (.lst acc)) m2) xs [] m1.st
theorem Good.wipe {K : PySem.W.Frag} {W F : Hp} {A : List Addr} {m : M} {σ : L2.St} {H : Hp} (G : Good K W F A m σ H) : ∀ vs : List Nat, Good K W F A ⟨wipeD m.sl vs, m.st⟩ (L2.wipe σ vs) H
  | [] => G
  | v :: vs => by
    have G1 := G.wipe vs
    refine ⟨G1.ext, G1.hid, G1.dj, by show ((wipeD m.sl vs).set v none).length = ((L2.wipe σ vs).set v none).length; rw [List.length_set, List.length_set]; exact G1.slen, fun i w e => ?_, G1.len, G1.st, G1.nd, G1.tb⟩
    have e' : ((wipeD m.sl vs).set v none)[i]? = some (some w) := e
    rw [List.getElem?_set] at e'
    show ∃ u : V, ((L2.wipe σ vs).set v none)[i]? = some (some u) ∧ _
    rw [List.getElem?_set]
    by_cases hv : v = i
    · rw [if_pos hv] at e'
      split at e' <;> cases e'
    · rw [if_neg hv] at e' ⊢
      exact G1.sl i w e'
section
variable {K : PySem.W.Frag} {W F F' : Hp} {A A' : List Addr} {m : M} {σ : L2.St} {H H' : Hp} {D : Addr} {o o' : HO}
theorem Good.hide (G : Good K W F A m σ H) (n : H D = none) : Good K (upd W D o) F A m σ (upd H D o) := by
  refine ⟨G.ext.trans (same_upd n), same_upd2 G.hid, fun b x e => ?_, G.slen, G.sl, G.len, fun k xs e => ?_, G.nd, fun q hq => ⟨tab_upd (G.tb q hq).1 n, (G.tb q hq).2.1, by rw [upd_ne (tab_some (G.tb q hq).1 n)]; exact (G.tb q hq).2.2⟩⟩
  · by_cases hb : b = D
    · rw [hb]
      exact G.ext.free n
    · rw [upd_ne hb] at e
      exact G.dj b x e
  · obtain ⟨a, vs, h1, h2, h3, h4, h5⟩ := G.st k xs e
    have ne : a ≠ D := ne_of_none h2 n
    exact ⟨a, vs, h1, by rw [upd_ne ne]; exact h2, h3, h4, by rw [upd_ne ne]; exact h5⟩
theorem Good.rehide (G : Good K (upd W D o) F A m σ H) : Good K (upd W D o') F A m σ (upd H D o') := by
  have fD : F D = none := G.dj D o upd_same
  refine ⟨fun b x e => ?_, fun b x e => ?_, fun b x e => ?_, G.slen, G.sl, G.len, fun k xs e => ?_, G.nd, fun q hq => ?_⟩
  rotate_left 4
  · obtain ⟨⟨ps, t1, ok⟩, t2, t3⟩ := G.tb q hq
    have ne : q.2 ≠ D := fun z => by
      rw [z, upd_same] at t3
      cases t3
    exact ⟨⟨ps, by rw [upd_ne ne]; exact t1, ok⟩, t2, by rw [upd_ne ne] at t3 ⊢; exact t3⟩
  · have hb : b ≠ D := fun z => by
      rw [z, fD] at e
      cases e
    rw [upd_ne hb]
    exact G.ext _ _ e
  · by_cases hb : b = D
    · subst hb
      rw [upd_same] at e ⊢
      exact e
    · rw [upd_ne hb] at e ⊢
      exact G.hid b x (by rw [upd_ne hb]; exact e)
  · by_cases hb : b = D
    · rw [hb]
      exact fD
    · rw [upd_ne hb] at e
      exact G.dj b x (by rw [upd_ne hb]; exact e)
  · obtain ⟨a, vs, h1, h2, h3, h4, h5⟩ := G.st k xs e
    have ne : a ≠ D := fun z => by
      rw [z, upd_same] at h5
      cases h5
    exact ⟨a, vs, h1, by rw [upd_ne ne]; exact h2, h3, h4, by rw [upd_ne ne] at h5 ⊢; exact h5⟩
theorem Good.show (G : Good K (upd W D (.lst us)) F A m σ H) (nW : W D = none) (r : Reps K F xs us) : Same F (upd F D (.lst us)) ∧ Good K W (upd F D (.lst us)) A m σ H ∧ Rep K (upd F D (.lst us)) (.lst xs) (.ref D) := by
  have fD : F D = none := G.dj D _ upd_same
  have s := same_upd (o := .lst us) fD
  have sW : Same W (upd W D (.lst us)) := same_upd nW
  refine ⟨s, ⟨fun b x e => ?_, sW.trans G.hid, fun b x e => ?_, G.slen, fun i v e => ?_, G.len, fun k xs e => ?_, G.nd, fun q hq => ?_⟩, ?_⟩
  rotate_left 4
  · obtain ⟨t1, t2, t3⟩ := G.tb q hq
    have ne : q.2 ≠ D := fun z => by
      rw [z, upd_same] at t3
      cases t3
    exact ⟨t1, by rw [upd_ne ne]; exact t2, by rw [upd_ne ne] at t3; exact t3⟩
  rotate_right 4
  · by_cases hb : b = D
    · subst hb
      rw [upd_same] at e
      cases e
      exact G.hid _ _ upd_same
    · rw [upd_ne hb] at e
      exact G.ext _ _ e
  · have hb : b ≠ D := fun z => by
      rw [z, nW] at e
      cases e
    rw [upd_ne hb]
    exact G.dj b x (sW _ _ e)
  · obtain ⟨u, h1, h2⟩ := G.sl i v e
    exact ⟨u, h1, RepV.mono s (pre_refl _) h2⟩
  · obtain ⟨a, vs, h1, h2, h3, h4, h5⟩ := G.st k xs e
    have ne : a ≠ D := fun z => by
      rw [z, upd_same] at h5
      cases h5
    rw [upd_ne ne] at h5
    exact ⟨a, vs, h1, h2, Reps.mono s h3, by rw [upd_ne ne]; exact h4, h5⟩
  · simp only [Rep]
    exact ⟨D, us, rfl, Rd.of upd_same, Reps.mono s r⟩
theorem Good.showOwn (G : Good K (upd W D (.lst us)) F A m σ H) (nW : W D = none) (r : Reps K F xs us) : Good K W F (A ++ [D]) ⟨m.sl, m.st ++ [.lst xs]⟩ σ H := by
  have fD : F D = none := G.dj D _ upd_same
  have hD : H D = some (.lst us) := G.hid _ _ upd_same
  have sW : Same W (upd W D (.lst us)) := same_upd nW
  have pr : A <+: A ++ [D] := ⟨[D], rfl⟩
  have at_ : ∀ k, k < m.st.length → (A ++ [D])[k]? = A[k]? := fun k hk => List.getElem?_append_left (by rw [G.len]; exact hk)
  have lst_ : (A ++ [D])[m.st.length]? = some D := by rw [← G.len]; simp
  have old : ∀ k, k < m.st.length → (m.st ++ [Cell.lst xs])[k]? = m.st[k]? := fun k hk => List.getElem?_append_left hk
  have new : ∀ k c, ¬ k < m.st.length → (m.st ++ [Cell.lst xs])[k]? = some c → k = m.st.length ∧ c = .lst xs := fun k c hk e => by
    have hk2 := (List.getElem?_eq_some_iff.mp e).1
    rw [List.length_append, List.length_singleton] at hk2
    have ek : k = m.st.length := by omega
    subst ek
    rw [List.getElem?_append_right (Nat.le_refl _), Nat.sub_self] at e
    exact ⟨rfl, (Option.some.inj e).symm⟩
  have nA : ∀ k zs, k < m.st.length → (m.st ++ [Cell.lst xs])[k]? = some (.lst zs) → (A ++ [D])[k]? = some D → False := fun k zs hk e h => by
    obtain ⟨a', _, q1, _, _, _, q5⟩ := G.st k zs ((old k hk).symm.trans e)
    rw [at_ k hk, q1] at h
    cases h
    rw [upd_same] at q5
    cases q5
  refine ⟨G.ext, sW.trans G.hid, fun b x e => G.dj b x (sW _ _ e), G.slen, fun i v e => ?_, by simp [G.len], fun k ys e => ?_, fun j k ys zs a e1 e2 h1 h2 => ?_, fun q hq => ⟨(G.tb q hq).1, (G.tb q hq).2.1, by
    have t3 := (G.tb q hq).2.2
    have ne : q.2 ≠ D := fun z => by
      rw [z, upd_same] at t3
      cases t3
    rw [upd_ne ne] at t3
    exact t3⟩⟩
  · obtain ⟨u, h1, h2⟩ := G.sl i v e
    exact ⟨u, h1, RepV.mono (Same.refl _) pr h2⟩
  · by_cases hk : k < m.st.length
    · have e' : m.st[k]? = some (.lst ys) := (old k hk).symm.trans e
      obtain ⟨a, ws, h1, h2, h3, h4, h5⟩ := G.st k ys e'
      have ne : a ≠ D := fun z => by
        rw [z, upd_same] at h5
        cases h5
      rw [upd_ne ne] at h5
      exact ⟨a, ws, (at_ k hk).trans h1, h2, h3, h4, h5⟩
    · obtain ⟨ek, ec⟩ := new k _ hk e
      subst ek
      cases ec
      exact ⟨D, us, lst_, hD, r, fD, nW⟩
  · by_cases hj : j < m.st.length
    · by_cases hk : k < m.st.length
      · exact G.nd j k ys zs a ((old j hj).symm.trans e1) ((old k hk).symm.trans e2) ((at_ j hj).symm.trans h1) ((at_ k hk).symm.trans h2)
      · obtain ⟨ek, _⟩ := new k _ hk e2
        subst ek
        rw [lst_] at h2
        cases h2
        exact (nA j ys hj e1 h1).elim
    · obtain ⟨ej, _⟩ := new j _ hj e1
      subst ej
      by_cases hk : k < m.st.length
      · rw [lst_] at h1
        cases h1
        exact (nA k zs hk e2 h2).elim
      · obtain ⟨ek, _⟩ := new k _ hk e2
        exact ek.symm
end
theorem lift_lc {K : PySem.W.Frag} (own : Bool) {di : DI} {g : Tgt} {tt : DT} {te : DE} {vs : List Nat} (hv : ∀ i ∈ tgSlots g, i ∈ vs) {σ : L2.St} {H : Hp} {Q : VK} (h : lift K (dLc own di g tt te vs) σ H Q) : tLc (liftI K di) (tgH K g) (liftT K tt) (lift K te) vs σ H Q := by
  obtain ⟨W, F, A, m, Qd, G, h, c⟩ := h
  refine ⟨W, F, A, m, _, G, h, fun F1 A1 xs lk m1 H1 s1 p1 G1 q1 J w => ?_⟩
  intro D hD
  have nW : W D = none := G1.hid.free hD
  let Kd : List Dt → M → Prop := fun acc m2 => if own = true then Qd (.c m2.st.length) ⟨m2.sl, m2.st ++ [.lst acc]⟩ else Qd (.d (.lst acc)) m2
  refine ⟨fun i n H' => ∃ F' A' st' acc us, Same F1 F' ∧ A1 <+: A' ∧ Good K (upd W D (.lst us)) F' A' ⟨m1.sl, st'⟩ σ H' ∧ Reps K F' acc us ∧ i + n = xs.length ∧ dLcGo m1.sl (wipeD m1.sl vs) g tt te xs lk Kd (xs.drop i) acc st', ⟨xs.length, F1, A1, m1.st, [], [], Same.refl _, pre_refl _, G1.hide hD, .nil, Nat.zero_add _, q1⟩, ?_⟩
  rintro i n H2 ⟨F2, A2, st2, acc, us, s2, p2, G2, r2, en, q2⟩
  by_cases hlt : i < xs.length
  · refine .inr ?_
    have ed : xs.drop i = xs[i] :: xs.drop (i + 1) := List.drop_eq_getElem_cons hlt
    rw [ed] at q2
    obtain ⟨hl, q2⟩ := q2
    obtain ⟨hgo, hy⟩ := w.go (upd W D (.lst us)) F2 A2 ⟨m1.sl, st2⟩ σ H2 i xs[i] s2 p2 G2 hl (List.getElem?_eq_getElem hlt)
    refine ⟨hgo, fun H' => ∃ F' A' st' acc us, Same F1 F' ∧ A1 <+: A' ∧ Good K (upd W D (.lst us)) F' A' ⟨m1.sl, st'⟩ σ H' ∧ Reps K F' acc us ∧ dLcGo m1.sl (wipeD m1.sl vs) g tt te xs lk Kd (xs.drop (i + 1)) acc st', fun H' hN => ?_, fun v H3 y => ?_⟩
    · obtain ⟨F', A', st', acc', us', s', p', G', r', q'⟩ := hN
      exact ⟨n - 1, by omega, F', A', st', acc', us', s', p', G', r', by omega, q'⟩
    · obtain ⟨F3, s3, G3, r3⟩ := hy v H3 y
      have G3w := G3.wipe vs
      -- from a state within the turn back to the outer names
      have outer : ∀ {F' A' σ' m' H' us'}, Same F3 F' → A2 <+: A' → Good K (upd W D (.lst us')) F' A' m' σ' H' → Good K (upd W D (.lst us')) F' A' ⟨m1.sl, m'.st⟩ σ H' := fun {F' A' σ' m' H' us'} sF pA G' =>
        ⟨G'.ext, G'.hid, G'.dj, G1.slen, fun i v e => by
          obtain ⟨u, h1, h2⟩ := G1.sl i v e
          exact ⟨u, h1, RepV.mono (s2.trans (s3.trans sF)) (p2.trans pA) h2⟩, G'.len, G'.st, G'.nd, G'.tb⟩
      refine tg_ok (m := ⟨wipeD m1.sl vs, st2⟩) (v := .d xs[i]) G3w r3 q2 fun m' σ' G' hw q' => ⟨?_, ?_⟩
      · have h1 := hw vs hv
        rw [h1]
        have idem : ∀ (l : List Nat) (vs : List Nat) (σ : L2.St), (∀ i ∈ l, i ∈ vs) → L2.wipe (L2.wipe σ vs) l = L2.wipe σ vs := by
          intro l
          induction l with
          | nil =>
            intro vs σ _
            rfl
          | cons z l ih =>
            intro vs σ hz
            show (L2.wipe (L2.wipe σ vs) l).set z none = L2.wipe σ vs
            rw [ih vs σ (fun i hi => hz i (List.mem_cons_of_mem _ hi))]
            have hm : z ∈ vs := hz z List.mem_cons_self
            apply List.ext_getElem?
            intro j
            rw [List.getElem?_set]
            by_cases hj : z = j
            · rw [if_pos hj]
              subst hj
              split
              · rename_i hl
                cases q : (L2.wipe σ vs)[z]? with
                | none =>
                  rw [List.getElem?_eq_none_iff] at q
                  omega
                | some o =>
                  cases o with
                  | none => rfl
                  | some x => exact absurd hm (wipe_some q).2
              · rename_i hl
                exact (List.getElem?_eq_none_iff.mpr (by omega)).symm
            · rw [if_neg hj]
        exact idem vs vs σ (fun _ h => h)
      · refine ⟨upd W D (.lst us), F3, A2, m', _, G', q', fun F4 A4 b m4 H4 s4 p4 G4 q4 => ?_⟩
        cases b with
        | false =>
          have q5 : dLcGo m1.sl (wipeD m1.sl vs) g tt te xs lk Kd (xs.drop (i + 1)) acc m4.st := q4
          exact ⟨F4, A4, m4.st, acc, us, s2.trans (s3.trans s4), p2.trans p4, outer s4 p4 G4, Reps.mono (s3.trans s4) r2, q5⟩
        | true =>
          refine ⟨upd W D (.lst us), F4, A4, m4, _, G4, q4, fun F5 A5 z m5 H5 s5 p5 G5 q5 u5 r5 => ?_⟩
          obtain ⟨d, rfl, hsz, q5⟩ := onD_elim q5
          have hD5 : H5 D = some (.lst us) := G5.hid _ _ upd_same
          refine ⟨us, hD5, by rw [← r2.length]; exact hsz, ?_⟩
          exact ⟨F5, A5, m5.st, acc ++ [d], us ++ [u5], s2.trans (s3.trans (s4.trans s5)), p2.trans (p4.trans p5), outer (s4.trans s5) (p4.trans p5) G5.rehide,
            (Reps.mono (s3.trans (s4.trans s5)) r2).append (.cons r5 .nil), q5⟩
  · have e : i = xs.length := by omega
    subst e
    rw [List.drop_length] at q2
    obtain ⟨hl, q2⟩ := q2
    refine .inl ⟨w.stop (upd W D (.lst us)) F2 A2 ⟨m1.sl, st2⟩ σ H2 s2 p2 G2 hl, ?_⟩
    have q3 : if own = true then Qd (.c st2.length) ⟨m1.sl, st2 ++ [.lst acc]⟩ else Qd (.d (.lst acc)) ⟨m1.sl, st2⟩ := q2
    cases own with
    | true => exact c F2 (A2 ++ [D]) _ _ _ (s1.trans s2) (p1.trans (p2.trans ⟨[D], rfl⟩)) (G2.showOwn nW r2) q3 _ ⟨D, by rw [← G2.len]; simp, rfl⟩
    | false =>
      obtain ⟨s3, G3, r3⟩ := G2.show nW r2
      exact c _ A2 _ _ _ (s1.trans (s2.trans s3)) (p1.trans p2) G3 q3 _ r3
abbrev JTs (X : Cx) (ifs : List Expr) (t : DT) : Prop := PTs X ifs (liftT X.K t)
section
variable {X : Cx} {pos : Pos}
theorem _root_.L2.PTs.imp {X : Cx} {e : List Expr} {t t' : TT} (h : PTs X e t) (f : ∀ σ H Q, t' σ H Q → t σ H Q) : PTs X e t' := ⟨fun pins s σ H Q I q => h.run pins s σ H Q I (f _ _ _ q)⟩
theorem jts_nil : JTs X [] dYes := pts_nil.imp fun σ H Q ⟨W, F, A, m, Qd, G, h, c⟩ => c F A true m H (Same.refl _) (pre_refl _) G h
theorem jts_one {e : Expr} {t : DT} (h : JT X e t) : JTs X [e] t := pts_one h
theorem je_lc (own : Bool) {elt tg iter : Expr} {ifs : List Expr} {scope : Scope} {own' : List (Str × Nat)} {di : DI} {g : Tgt} {tt : DT} {te : DE} (hv : ∀ i ∈ tgSlots g, i ∈ own'.map (·.2)) (hc : X.calm = true) (hN : X.N.Nodup) (hi : JI X tg iter di) (ok : BlkOk X.N X.env.scope scope own')
    (hg : ∀ (s : Shared) (H : Hp) (C : Addr) (cl : List (Str × Addr)) (fp : List Addr), PG (X.blk s H scope (compEnvC scope cl C X.env) fp) tg (tgH X.K g)) (ht : ∀ (s : Shared) (H : Hp) (C : Addr) (cl : List (Str × Addr)) (fp : List Addr), JTs (X.blk s H scope (compEnvC scope cl C X.env) fp) ifs tt)
    (he : ∀ (s : Shared) (H : Hp) (C : Addr) (cl : List (Str × Addr)) (fp : List Addr), JE (X.blk s H scope (compEnvC scope cl C X.env) fp) elt te) (hs : ∀ x, foldedSetIterable iter X.env x = pure x := by intro _; rfl) :
    JE X (.ListComp elt [⟨tg, iter, ifs, 0⟩] scope pos) (dLc own di g tt te (own'.map (·.2))) :=
  (pe_lc (tt := liftT X.K tt) (te := lift X.K te) hc hN hi ok hg ht he hs).imp fun _ _ _ h => lift_lc own hv h
theorem js_setLc (own : Bool) {i : Nat} {y : Str} {py : Pos} {elt tg iter : Expr} {ifs : List Expr} {scope : Scope} {own' : List (Str × Nat)} {spos : Pos} {di : DI} {g : Tgt} {tt : DT} {te : DE} (hv : ∀ i ∈ tgSlots g, i ∈ own'.map (·.2)) (hc : X.calm = true) (hN : X.N.Nodup) (hy : X.N[i]? = some y) (hyl : X.env.scope.names.lookup y = some .local)
    (hsw : swapsWith (.ListComp elt [⟨tg, iter, ifs, 0⟩] scope pos) (some (.Name y py)) spos.line X.env = pure true) (hi : JI X tg iter di) (ok : BlkOk X.N X.env.scope scope own')
    (hg : ∀ (s : Shared) (H : Hp) (C : Addr) (cl : List (Str × Addr)) (fp : List Addr), PG (X.blk s H scope (compEnvC scope cl C X.env) fp) tg (tgH X.K g)) (ht : ∀ (s : Shared) (H : Hp) (C : Addr) (cl : List (Str × Addr)) (fp : List Addr), JTs (X.blk s H scope (compEnvC scope cl C X.env) fp) ifs tt)
    (he : ∀ (s : Shared) (H : Hp) (C : Addr) (cl : List (Str × Addr)) (fp : List Addr), JE (X.blk s H scope (compEnvC scope cl C X.env) fp) elt te) (hs : ∀ x, foldedSetIterable iter X.env x = pure x := by intro _; rfl) :
    JS X (.Assign [.Name y py] (.ListComp elt [⟨tg, iter, ifs, 0⟩] scope pos) spos) (dSet i (dLc own di g tt te (own'.map (·.2)))) := by
  refine (ps_setLc (tt := liftT X.K tt) (te := lift X.K te) hc hN hy hyl hsw hi ok hg ht he hs).imp fun D σ H hh => ?_
  have h2 : tAsg (lift X.K (dLc own di g tt te (own'.map (·.2)))) (gName i) D σ H := lift_set hh
  exact lift_lc own hv h2
end
end RT

set_option maxRecDepth 100000
set_option maxHeartbeats 4000000
namespace RT
open PySem PySem.Spec PyProof.Rows L2

def notLst (o : Obj) : Bool := match o.cls with
  | .type c => decide (c ≠ "list")
  | _ => true
def frN (g : Addr → Option Obj) (as : List Addr) : PySem.W.Frag := (He.frG g as).filter fun q => notLst q.2 && !He.emptyTab q.2
theorem frN_mem' {g : Addr → Option Obj} {as : List Addr} {a : Addr} {o : Obj} (h : (a, o) ∈ He.frG g as) : g a = some o := by
  unfold He.frG at h
  obtain ⟨b, _, e⟩ := List.mem_filterMap.mp h
  cases hb : g b with
  | none =>
    rw [hb] at e
    cases e
  | some u =>
    rw [hb] at e
    have e2 : (b, u) = (a, o) := Option.some.inj e
    injection e2 with e3 e4
    rw [← e3, ← e4]
    exact hb
theorem lookup_mem' {a : Addr} {o : Obj} : ∀ {l : List (Addr × Obj)}, l.lookup a = some o → (a, o) ∈ l
  | [], h => by cases h
  | (b, u) :: r, h => by
    have h2 : (match a == b with | true => some u | false => r.lookup a) = some o := h
    cases q : (a == b) with
    | true =>
      rw [q] at h2
      have e : u = o := Option.some.inj h2
      rw [beq_iff_eq.mp q, e]
      exact List.mem_cons_self
    | false =>
      rw [q] at h2
      exact List.mem_cons_of_mem _ (lookup_mem' h2)
theorem frN_mem {g : Addr → Option Obj} {as : List Addr} {a : Addr} {o : Obj} (h : (frN g as).lookup a = some o) : g a = some o ∧ notLst o = true ∧ He.emptyTab o = false := by
  obtain ⟨h1, h2⟩ := List.mem_filter.mp (lookup_mem' h)
  obtain ⟨h3, h4⟩ := Bool.and_eq_true_iff.mp h2
  exact ⟨frN_mem' h1, h3, by simpa using h4⟩
theorem frN_in {as : List Addr} {h : Heap} : (frN h.get? as).In h := fun _ _ e => (frN_mem e).1
def NoLst (K : PySem.W.Frag) : Prop := ∀ a o, K.lookup a = some o → notLst o = true
structure TabsOk (K : PySem.W.Frag) (h : Heap) : Prop where
  cd : ∀ q ∈ tabsK K, PySem.W.codeHdIn K q.1 q.2 = true
  out : ∀ q ∈ tabsK K, K.lookup q.2 = none
  get : ∀ q ∈ tabsK K, h.get? q.2 = some { cls := .none, data := .fields #[] }
def tabsBK (g : Addr → Option Obj) (K : PySem.W.Frag) : Bool := (tabsK K).all fun q => PySem.W.codeHdIn K q.1 q.2 && (match g q.2 with
  | some o => He.emptyTab o
  | none => false)
theorem tabsBK_ok {as : List Addr} {h : Heap} (e : tabsBK h.get? (frN h.get? as) = true) : TabsOk (frN h.get? as) h := by
  have key : ∀ q ∈ tabsK (frN h.get? as), PySem.W.codeHdIn (frN h.get? as) q.1 q.2 = true ∧ ∃ o, h.get? q.2 = some o ∧ He.emptyTab o = true := fun q hq => by
    obtain ⟨h3, h4⟩ := Bool.and_eq_true_iff.mp (List.all_eq_true.mp e q hq)
    refine ⟨h3, ?_⟩
    cases z : h.get? q.2 with
    | none =>
      rw [z] at h4
      cases h4
    | some o =>
      rw [z] at h4
      exact ⟨o, rfl, h4⟩
  refine ⟨fun q hq => (key q hq).1, fun q hq => ?_, fun q hq => ?_⟩
  · obtain ⟨_, o, z, t⟩ := key q hq
    cases y : (frN h.get? as).lookup q.2 with
    | none => rfl
    | some u =>
      obtain ⟨z1, _, z2⟩ := frN_mem y
      rw [z] at z1
      cases z1
      rw [t] at z2
      cases z2
  · obtain ⟨_, o, z, t⟩ := key q hq
    rw [z, He.emptyTab_eq t]
abbrev AlR : Type := Bool × He.AlD
def obsR (n : Nat) (fa : List He.Fa) (fn : List He.DefD) (xb : PySem.W.Frag → Bool) (g : Addr → Option Obj) : AlR := (xb (frN g (He.asD g n)) && tabsBK g (frN g (He.asD g n)), He.obsD fa fn (frN g (He.asD g n)))
def hookR (n : Nat) (fa : List He.Fa) (fn : List He.DefD) (xb : PySem.W.Frag → Bool) : PySem.W.Hook where
  α := AlR
  obs := fun s => obsR n fa fn xb s.heap.get?
  val := fun _ => (true, He.valD fn)
  says := fun _ h => ∃ K : PySem.W.Frag, K.In h ∧ NoLst K ∧ TabsOk K h ∧ xb K = true ∧ He.SaysD fa fn K
  of := fun _ _ e => ⟨_, frN_in, fun _ _ e => (frN_mem e).2.1, tabsBK_ok (Bool.and_eq_true_iff.mp (congrArg Prod.fst e)).2, (Bool.and_eq_true_iff.mp (congrArg Prod.fst e)).1, congrArg Prod.snd e⟩
  keeps := fun _ _ _ ⟨K, hK, n, t, x, c⟩ k => ⟨K, PySem.W.Frag.In.keeps hK k, n, ⟨t.cd, t.out, fun q hq => k _ _ (t.get q hq)⟩, x, c⟩
theorem obsR_eq {n : Nat} {fa : List He.Fa} {fn : List He.DefD} {xb : PySem.W.Frag → Bool} {g : Addr → Option Obj} {s : Shared} (h : ∀ a, g a = s.heap.get? a) : obsR n fa fn xb g = (hookR n fa fn xb).obs s := by
  have e : g = s.heap.get? := funext h
  rw [e] <;> rfl

theorem fn_dtD {P : Program} {w : World} {K : PySem.W.Frag} {mg : Str → Option Value} {base : Heap} {x qual : Str} {params : Arguments} {body : List Stmt} {scope : Scope} {dvs : List V} {kws : List (Str × V)} {f : Addr} {fd : FuncData} {N ps : List Str} {k : Nat} {sp : FSpec} {b : DS} (kp : Bool) (hns : BaseOk K mg base) (htr : P.given.tree = none)
    (F : FunD K x qual params body scope dvs kws f fd) (S : FnScope N ps scope)
    (hd : ∀ (X : Cx) (cdv : Value) (A : Around) (outer : List Env) (s : Shared) (H : Hp) (E : XK), X = (cxOf CX0 P w K mg base N qual scope f cdv A outer s H E).nox → CodeIs K f cdv → Amb k X → JSs X body b)
    (hsp : ∀ args st0 Qd, sp args st0 Qd → args.length = ps.length ∧ b (endsOf kp st0.length Qd) (startM N.length args st0)) : Fnn P w K mg base CX0 (k + 1) f fd ps (liftSp K sp) := by
  obtain ⟨oc, od, dV, kV, doc, pm, an, cdv, ct, osl, rfl, lk, hcd, _, _⟩ := F.ex
  refine fnn_of hns htr lk hcd S (fun vs H Q E h => ?_) fun A outer s H vs Q E amb h => ?_
  · obtain ⟨W, F1, A1, st1, args, Qd, G, r, q, c⟩ := h
    rw [← r.length]
    exact (hsp _ _ _ q).1
  · obtain ⟨W, F1, A1, st1, args, Qd, G, r, q, c⟩ := h
    have h1 := hd (cxOf CX0 P w K mg base N qual scope f cdv A outer s H E).nox cdv A outer s H E rfl ⟨oc, od, _, osl, lk, rfl⟩ ⟨amb.rm, amb.py, amb.tb⟩
    refine ⟨_, PSs.nox h1, ?_⟩
    have hl := r.length
    refine ⟨W, F1, A1, startM N.length args st1, endsOf kp st1.length Qd, ⟨G.ext, G.hid, G.dj, ?_, ?_, G.len, G.st, G.nd, G.tb⟩, (hsp _ _ _ q).2, ⟨?_, ?_, ?_, ?_⟩⟩
    · unfold startM L2.start
      simp [hl]
    · intro i v e
      unfold startM at e
      unfold L2.start
      rw [← hl]
      exact repVs_slots r _ i v e
    · intro F' A' m' σ' H' s' p' G' q'
      exact retD_ok (kp := kp) (v := .d .non) (u := .non) G.len s' p' G' rv_non q' c
    · intro F' A' m' σ' H' v u s' p' G' r' q'
      exact retD_ok (kp := kp) G.len s' p' G' r' q' c
    · intro F' A' m' σ' H' _ _ _ q'
      exact q'
    · intro F' A' m' σ' H' _ _ _ q'
      exact q'

theorem law_callR {P : Program} {w : World} {K : PySem.W.Frag} {mg mb : Str → Option Value} {k : Nat} {fa a : Addr} {fd : FuncData} {x : Str} {sp : Sp} {s₁ : Shared} {vs : List Value} {ns : List Int}
    (KX : K.In s₁.heap) (nl : NoLst K) (tk : TabsOk K s₁.heap) (hns : s₁.heap.Ns mainGlobals mg) (hb : s₁.heap.Ns builtinsNs mb) (hbb : ∀ x : Str, x ≠ "__name__" → mb x = bootBuiltins x) (hlim : s₁.heap.NoLimit) (hseer : s₁.heap.NoSeer) (hg : s₁.gens = #[])
    (hbm : ∃ (bm : Addr) (ob : Obj), mg "__builtins__" = some (.ref bm) ∧ bm ≠ builtinsNs ∧ s₁.heap.get? bm = some ob ∧ ob.cls = .type "module" ∧ ob.dict = some builtinsNs ∧ ob.data = .plain)
    (ha : s₁.heap.get? a = some { cls := .type "list", data := .seq vs.toArray }) (hi : IntsAre vs ns) (hl : ns.length ≤ sizeLine) (hr : GRoom k callerA)
    (F : ∀ base : Heap, K.In base → base.Ns mainGlobals mg → BaseOk K mg base → Fnn P w K mg base CX0 k fa fd [x] sp) (hbind : ∀ (s : Shared) (u : Value), BindsTo s fd ⟨[u], []⟩ [(x, u)])
    (hsp : ∀ (H : Hp) (o : Obj), H a = some (.frz o (.lst (ns.map V.int))) → (∀ q ∈ tabsK K, H q.2 = some (.tbl #[])) → sp [.ref a] H (fun v _ => v = .bl true) E0) :
    codeAny (model P w) callerA (.call (.ref fa) ⟨[.ref a], []⟩) (fun r s' => r = .ok (.ret (.bool true)) ∧ OldK s₁.heap s'.heap ∧ s'.os = s₁.os ∧ AllBare s'.gens) s₁ := by
  have rv := vals_ints hi
  have lenV := hi.length
  have hk : K.lookup a = none := by
    cases q : K.lookup a with
    | none => rfl
    | some o =>
      have e := KX a o q
      rw [ha] at e
      have e2 := Option.some.inj e
      have := nl a o q
      rw [← e2] at this
      have z : notLst { cls := .type "list", data := .seq vs.toArray } = false := by
        show decide ("list" ≠ "list") = false
        decide
      rw [z] at this
      cases this
  have isT : ∀ b : Addr, b ∈ (tabsK K).map (·.2) → s₁.heap.get? b = some { cls := .none, data := .fields #[] } := fun b hb => by
    obtain ⟨p, hp, e⟩ := List.mem_map.mp hb
    rw [← e]
    exact tk.get p hp
  have aT : a ∉ (tabsK K).map (·.2) := fun z => by
    have q := isT a z
    rw [ha] at q
    have z' : Data.seq vs.toArray _ = Data.fields #[] := congrArg Obj.data (Option.some.inj q)
    cases z'
  have memT : ∀ p ∈ tabsK K, p.2 ∈ (tabsK K).map (·.2) := fun p hp => List.mem_map.mpr ⟨p, hp, rfl⟩
  let H : Hp := fun b => if b = a then some (.frz { cls := .type "list", data := .seq vs.toArray } (.lst (ns.map V.int))) else if b ∈ (tabsK K).map (·.2) then some (.tbl #[]) else none
  have Ha : H a = some (.frz { cls := .type "list", data := .seq vs.toArray } (.lst (ns.map V.int))) := if_pos rfl
  have Ht : ∀ b ∈ (tabsK K).map (·.2), H b = some (.tbl #[]) := fun b hb => (if_neg (show ¬ b = a from fun z => aT (z ▸ hb))).trans (if_pos hb)
  have Hn : ∀ b, b ≠ a → b ∉ (tabsK K).map (·.2) → H b = none := fun b hb hb2 => (if_neg hb).trans (if_neg hb2)
  have hok : HOk P w H s₁.heap := fun b u z => by
    by_cases hb : b = a
    · subst hb
      rw [Ha] at z
      cases z
      exact ⟨ha, by rw [List.length_map]; exact hl, vs, _, rv, ha⟩
    · by_cases hb2 : b ∈ (tabsK K).map (·.2)
      · rw [Ht b hb2] at z
        cases z
        exact isT b hb2
      · rw [Hn b hb hb2] at z
        cases z
  have base_of : ∀ {b : Addr} {o : Obj}, s₁.heap.get? b = some o → H b = none → (hidT s₁.heap H).get? b = some o := fun e n => hidT_get e n
  have noC : ∀ {b : Addr} {o : Obj}, s₁.heap.get? b = some o → o.cls ≠ .type "list" → o.cls ≠ .none → H b = none := fun {b o} e d d2 => by
    refine Hn b (fun z => ?_) fun z => ?_
    · subst z
      rw [ha] at e
      cases e
      exact absurd rfl d
    · rw [isT b z] at e
      cases e
      exact absurd rfl d2
  have noA : ∀ {b : Addr} {o : Obj} {es : Array DictEntry} {ep : Nat}, s₁.heap.get? b = some o → o.data = .dict es ep → H b = none := fun {b o es ep} e d => by
    refine Hn b (fun z => ?_) fun z => ?_
    · subst z
      rw [ha] at e
      cases e
      have d' : Data.seq vs.toArray _ = Data.dict es ep := d
      cases d'
    · rw [isT b z] at e
      cases e
      cases d
  have nsK : ∀ {b : Addr} {m : Str → Option Value}, s₁.heap.Ns b m → (hidT s₁.heap H).Ns b m := fun {b m} ⟨o, es, ep, e, d, r⟩ => ⟨o, es, ep, base_of e (noA e d), d, r⟩
  have hKb : K.In (hidT s₁.heap H) := fun b o e => base_of (KX b o e) (by
    refine Hn b (fun z => ?_) fun z => ?_
    · subst z
      rw [hk] at e
      cases e
    · obtain ⟨p, hp, ep⟩ := List.mem_map.mp z
      rw [← ep, tk.out p hp] at e
      cases e)
  have hM : Mod K mg (hidT s₁.heap H) := ⟨hKb, nsK hns, ⟨mb, nsK hb, hbb⟩, let ⟨mc, h1, h2⟩ := hlim; ⟨mc, nsK h1, h2⟩⟩
  have hS : (hidT s₁.heap H).NoSeer := ⟨let ⟨mc, a, b⟩ := hseer.statics; ⟨mc, nsK a, b⟩, let ⟨mc, a, b⟩ := hseer.mods; ⟨mc, nsK a, b⟩, let ⟨mc, a, b⟩ := hseer.imp; ⟨mc, nsK a, b⟩,
    let ⟨mg, bm, ob, a, b, c, d, e⟩ := hseer.main; ⟨mg, bm, ob, nsK a, b, base_of c (noC c (by rw [d]; decide) (by rw [d]; intro z; cases z)), d, e⟩⟩
  have TB : ∀ p ∈ tabsK K, GxR.TabB (hidT s₁.heap H) mg p.1 p.2 := fun p hp => by
    have hTp := tk.get p hp
    refine ⟨PySem.W.codeHd_of_K hKb (tk.cd p hp), ?_, fun z => ?_⟩
    · obtain ⟨bm, ob, b1, b2, b3, b4, b5, b6⟩ := hbm
      have nG : bm ≠ mainGlobals := fun q => by
        obtain ⟨o, es, ep, e, hd, _⟩ := hns
        rw [q, e] at b3
        cases b3
        rw [hd] at b6
        cases b6
      have nP : bm ≠ p.2 := fun q => by
        rw [q, hTp] at b3
        cases b3
        cases b6
      exact ⟨bm, ob, b1, b2, nG, nP, base_of b3 (noC b3 (by rw [b4]; decide) (by rw [b4]; intro z; cases z)), b4, b5, b6⟩
    · obtain ⟨o, es, ep, e, hd, _⟩ := hns
      rw [z, hTp] at e
      cases e
      cases hd
  have e0 : Env0 P w K mg (hidT s₁.heap H) callerA [] s₁ H := ⟨rfl, hM, fun b o e => of_hidT e, Nat.le_of_eq (hidT_size _ _), trivial, fun b hb => absurd (show b ∈ ([] : List Addr) from hb) (by simp), hok, .of_eq hg⟩
  refine codeAny_mono ((F _ hKb (nsK hns) ⟨hS, TB⟩).run callerA [] s₁ H ⟨[.ref a], []⟩ [.ref a] [.ref a] _ _ hr e0 (hbind s₁ (.ref a)) (.cons rfl .nil) (hsp H _ Ha fun q hq => Ht _ (memT q hq))) fun r s' h => ?_
  cases r with
  | error e => exact (show False from h).elim
  | ok fl =>
    cases fl with
    | next => exact False.elim h
    | brk => exact False.elim h
    | cont => exact False.elim h
    | ret u =>
      obtain ⟨v, H', os, bare, un, hok', r', q⟩ := h
      have q' : v = .bl true := q
      subst q'
      obtain rfl : u = Value.bool true := r'
      have key : ∀ b o, b ∉ (tabsK K).map (·.2) → s₁.heap.get? b = some o → s'.heap.get? b = some o := fun b o nb e => by
        by_cases hb : b = a
        · subst hb
          have z2 := un.frzs b _ _ Ha
          obtain ⟨e1, _⟩ := hok b _ Ha
          obtain ⟨e2, _⟩ := hok' b _ z2
          rw [e] at e1
          cases e1
          exact e2
        · exact un.keep b o e (Hn b hb nb) (by intro z; exact absurd (show b ∈ ([] : List Addr) from z) (by simp)) (by simp)
      have grown : ∀ p ∈ tabsK K, ∃ more : Array Value, s'.heap.get? p.2 = some { cls := .none, data := .fields more } := fun p hp => by
        obtain ⟨more, z⟩ := un.tbls p.2 #[] (Ht _ (memT p hp))
        exact ⟨_, hok' p.2 _ z⟩
      refine ⟨rfl, ⟨fun b o e => ?_, fun b o e => ?_⟩, os, bare⟩
      · by_cases hb : b ∈ (tabsK K).map (·.2)
        · obtain ⟨p, hp, ep⟩ := List.mem_map.mp hb
          obtain ⟨more, hm⟩ := grown p hp
          rw [← ep] at e ⊢
          rw [tk.get p hp] at e
          cases e
          exact .inr (.inl ⟨((PySem.W.codeHd_of_K KX (tk.cd p hp)).tab (tk.get p hp)).isCodeTable, rfl, #[], more, rfl, by rw [Array.empty_append]; exact hm⟩)
        · exact .inl (key b o hb e)
      · by_cases hb : b ∈ (tabsK K).map (·.2)
        · obtain ⟨p, hp, ep⟩ := List.mem_map.mp hb
          obtain ⟨more, hm⟩ := grown p hp
          rw [← ep]
          exact ⟨_, hm⟩
        · exact ⟨o, key b o hb e⟩
def LawD (n : Nat) (sp : FSpec) : Prop := ∀ ns : List Int, ns.length ≤ n → (∀ z ∈ ns, Builtin.Int.intBits z ≤ 1048576) → sp [.d (.lst (ns.map .int))] [] fun r _ => r = .d (.bl true)
theorem good0 {K : PySem.W.Frag} {F H : Hp} (s : Same F H) (t : ∀ q ∈ tabsK K, GxR.TabG H q.2 ∧ F q.2 = none) : Good K (fun _ => none) F [] ⟨[], []⟩ [] H where
  ext := s
  hid := fun _ _ e => nomatch e
  dj := fun _ _ e => nomatch e
  slen := rfl
  sl := fun i v e => by simp at e
  len := rfl
  st := fun k xs e => by simp at e
  nd := fun j k xs ys a e => by simp at e
  tb := fun q hq => ⟨(t q hq).1, (t q hq).2, rfl⟩
theorem reps_ints {K : PySem.W.Frag} {F : Hp} : ∀ ns : List Int, Reps K F (ns.map .int) (ns.map V.int)
  | [] => .nil
  | n :: ns => .cons rep_int (reps_ints ns)
theorem walk_R {l : PySem.W.OpenLaw} {n k : Nat} {q : Program} {loose : List Str} {XP : (Str → Option Value) → Heap → Prop} {YP : World → Heap → Prop} {d : DefRec} {x : Str} {sp : FSpec}
    (hn : l.most = some n) (hn2 : n ≤ sizeLine) (hdf : d.params.defaults = []) (hr : GRoom k callerA) (hi : importsNone q = true) (law : LawD n sp)
    (F : ∀ (w : World) (mg : Str → Option Value) (fa : Addr) (h : Heap), YP w h → h.Ns mainGlobals mg → mg d.name = some (.ref fa) →
      ∃ (K : PySem.W.Frag) (fd : FuncData), K.In h ∧ NoLst K ∧ TabsOk K h ∧ (∀ (s : Shared) (u : Value), BindsTo s fd ⟨[u], []⟩ [(x, u)]) ∧
        ∀ base : Heap, K.In base → base.Ns mainGlobals mg → BaseOk K mg base → Fnn l.prog w K mg base CX0 k fa fd [x] (liftSp K sp)) :
    PySem.W.WalkO q loose XP YP l.row.toRowW d [] (fun f vs => PySem.call f vs) := by
  refine Att.attach_callB hn hdf fun w s₀ s₁ mg mb fa o pm cd doc a vs ns G Y ho hd hcd hmg hobj hints hlen hbits hg => ?_
  obtain ⟨K, fd, KX, nl, tk, hb, hF⟩ := F w mg fa _ Y G.T.g hmg
  refine law_callR KX nl tk G.T.g G.T.b G.T.builtins G.T.nolimit (G.T.seer hi) hg G.T.bmain hobj hints (Nat.le_trans hlen hn2) hr hF hb fun H ob hS hT => ?_
  have sF : Same (fun b => if b = a then H b else none) H := fun b o e => by
    by_cases hb : b = a
    · have e' := (if_pos hb).symm.trans e
      exact e'
    · have e' := (if_neg hb).symm.trans e
      cases e'
  refine ⟨fun _ => none, fun b => if b = a then H b else none, [], [], [.d (.lst (ns.map .int))], _, good0 sF (fun q hq => ⟨⟨#[], hT q hq, trivial⟩, if_neg (fun z => ?_)⟩), ⟨.ref a, [], rfl, ?_, rfl⟩, law ns hlen hbits, fun F' A' st' H' r u _ _ _ r' q' => ?_⟩
  · have := hT q hq
    rw [z, hS] at this
    cases this
  · show Rep K _ (.lst (ns.map .int)) (.ref a)
    simp only [Rep]
    exact ⟨a, _, rfl, .inr ⟨ob, (if_pos rfl).trans hS⟩, reps_ints ns⟩
  · rw [q'] at r'
    exact repB_bl (H := H') r'
end RT

set_option maxRecDepth 100000
set_option maxHeartbeats 4000000
namespace RT
open PySem PySem.Spec PyProof.Rows L2

def rAddA : DR2 := fun x y P => match x, y with
  | .int i, .int j => P (.int (i + j))
  | .str i, .str j => i.length + j.length ≤ sizeLine ∧ P (.str (i ++ j))
  | .tup xs, .tup ys => xs.length + ys.length ≤ sizeLine ∧ P (.tup (xs ++ ys))
  | .lst xs, .lst ys => xs.length + ys.length ≤ sizeLine ∧ P (.lst (xs ++ ys))
  | _, _ => False
section
variable {X : Cx}
theorem o_addA : OpD X (binaryOp .Add) rAddA := ⟨_, (op_add.or op_add_str).or (op_catA.or op_catR), fun W F A m σ H x y u v P Q G rx ry q c => by
  unfold rAddA at q
  split at q
  · exact .inl (.inl ⟨_, _, repB_int rx, repB_int ry, c F H _ _ (Same.refl _) G rep_int q⟩)
  · exact .inl (.inr ⟨_, _, repB_str rx, repB_str ry, q.1, c F H _ _ (Same.refl _) G rep_str q.2⟩)
  · rename_i xs ys
    obtain ⟨R, hR, hv⟩ := o_catT (X := X)
    obtain ⟨l, vs, rfl, hl, rl⟩ := repB_tup rx
    obtain ⟨b, ws, rfl, hb, rb⟩ := repB_tup ry
    refine .inr (.inl ⟨l, b, vs, ws, rfl, rfl, seqT_mono G.ext hl, seqT_mono G.ext hb, by rw [← rl.length, ← rb.length]; exact q.1, fun e => ?_, fun e e2 => ?_, fun _ _ p np => ?_⟩)
    · have e1 := reps_nil rl e
      subst e1
      exact c F H _ _ (Same.refl _) G ry q.2
    · have e1 := reps_nil rb e2
      subst e1
      have q2 := q.2
      rw [List.append_nil] at q2
      exact c F H _ _ (Same.refl _) G rx q2
    · obtain ⟨F2, s2, G2, r2⟩ := tup_laid G np (rl.append rb)
      exact c F2 _ _ _ s2 G2 r2 q.2
  · rename_i xs ys
    obtain ⟨l, vs, rfl, hl, rl⟩ := rx
    obtain ⟨b, ws, rfl, hb, rb⟩ := ry
    refine .inr (.inr ⟨l, b, vs, ws, rfl, rfl, hl, hb, by rw [← rl.length, ← rb.length]; exact q.1, fun p np => ?_⟩)
    obtain ⟨F2, s2, G2, r2⟩ := lst_laid G np (rl.append rb)
    exact c F2 _ _ _ s2 G2 r2 q.2
  · exact q.elim⟩

def iAny (K : PySem.W.Frag) (tl : TE) : TI := fun σ H R => tl σ H fun x H1 => ∃ a, x = .ref a ∧ (((∃ xs, SqL K H1 a xs) ∧ R (Itl K a) H1) ∨ ((∃ xs, SqT K H1 a xs) ∧ R (Itt K a) H1))
theorem pi_any {tg l : Expr} {tl : TE} (hl : PE X l tl) : PI X tg l (iAny X.K tl) := by
  refine ⟨fun pins s σ H R I h => ?_⟩
  refine thn (hl.run pins s σ H _ I h) fun v s1 ⟨x, H1, I1, r1, a, ex, q⟩ => ?_
  subst ex
  cases r1
  rcases q with ⟨⟨xs, hs⟩, q⟩ | ⟨⟨xs, hs⟩, q⟩
  · obtain ⟨its, rv, p, hz⟩ := I1.list hs
    refine wpAny_pyIter_list p.isList ?_
    refine ⟨s1.heap.objs.size, [s1.heap.objs.size], _, _, H1, rfl, I1.kept (t' := s1.toks) fun b o e => Heap.get?_push_of_some _ e, turn_list a _, ⟨_, Heap.get?_push_size _ rfl, rfl, rfl⟩, fun b hb => ?_, q⟩
    have e : b = s1.heap.objs.size := by simpa using hb
    subst e
    exact I1.fpOk (Nat.le_refl _) (I1.hok.fresh (Nat.le_refl _))
  · obtain ⟨its, rv, p, hz⟩ := I1.tuple hs
    refine wpAny_pyIter_tuple (show s1.heap.IsTuple a its.toArray from p) ?_
    refine ⟨s1.heap.objs.size, [s1.heap.objs.size], _, _, H1, rfl, I1.kept (t' := s1.toks) fun b o e => Heap.get?_push_of_some _ e, turn_tuple a _, ⟨_, Heap.get?_push_size _ rfl, rfl, rfl⟩, fun b hb => ?_, q⟩
    have e : b = s1.heap.objs.size := by simpa using hb
    subst e
    exact I1.fpOk (Nat.le_refl _) (I1.hok.fresh (Nat.le_refl _))
def dAny (t : DE) : DI := fun m Q => t m fun v m1 => match v with
  | .d (.lst xs) => Q xs none m1
  | .d (.tup xs) => Q xs none m1
  | .c k => onC m1.st k fun xs => Q xs (some k) m1
  | _ => False
theorem ji_any {tg l : Expr} {t : DE} (hl : JE X l t) : JI X tg l (dAny t) := by
  refine (pi_any hl).imp fun σ H R hh => ?_
  obtain ⟨W, F, A, m, Qd, G, h, c⟩ := hh
  refine ⟨W, F, A, m, _, G, h, fun F1 A1 v m1 H1 s1 p1 G1 q1 u r1 => ?_⟩
  split at q1
  · rename_i xs
    have r' : Rep X.K F1 (.lst xs) u := r1
    simp only [Rep] at r'
    obtain ⟨a, vs, rfl, hs, rs⟩ := r'
    exact ⟨a, rfl, .inl ⟨⟨vs, .inl (rd_mono G1.ext hs)⟩, c F1 A1 xs none m1 H1 s1 p1 G1 q1 _ (walks_list (.inl hs) rs)⟩⟩
  · rename_i xs
    have r' : Rep X.K F1 (.tup xs) u := r1
    simp only [Rep] at r'
    obtain ⟨a, vs, rfl, hs, rs⟩ := r'
    exact ⟨a, rfl, .inr ⟨⟨vs, seqT_mono G1.ext hs⟩, c F1 A1 xs none m1 H1 s1 p1 G1 q1 _ (walks_tup hs rs)⟩⟩
  · rename_i k
    obtain ⟨xs, e, q1⟩ := onC_elim q1
    obtain ⟨a, ha, rfl⟩ := r1
    obtain ⟨a', vs, h1, h2, h3, _⟩ := G1.st k xs e
    rw [ha] at h1
    cases h1
    exact ⟨a, rfl, .inl ⟨⟨vs, SqL.of h2⟩, c F1 A1 xs (some k) m1 H1 s1 p1 G1 q1 _ (walks_own ha)⟩⟩
  · exact q1.elim

section
variable {a b e : Expr} {ta tb tc : DE} {pos : Pos} {f g : Int → Int → Bool}
end

structure SlotOk (X : Cx) (i : Nat) (x : Str) : Prop where
  hN : X.N[i]? = some x
  hl : Loc X.env.scope x
  nd : (x == ("__debug__" : Str)) = false
  nc : (x == ("__classdict__" : Str)) = false
  hf : X.fn x = true ∨ X.env.scope.names.lookup x = some .local
theorem SlotOk.vis {i : Nat} {x : Str} (s : SlotOk X i x) : Vis X.env.scope x := s.hl.elim .inl fun h => .inr (.inl h)
theorem je_v {i : Nat} {x : Str} {pos : Pos} (s : SlotOk X i x) : JE X (.Name x pos) (dVar i) := je_var i s.hN s.vis s.nd s.nc
theorem je_f {i : Nat} {x : Str} {pos : Pos} (s : SlotOk X i x) : JE X (.Name x pos) (dFz i) := je_fz i s.hN s.vis s.nd s.nc
theorem js_st {i : Nat} {x : Str} {pos pos' : Pos} {e : Expr} {te : DE} (hN : X.N.Nodup) (s : SlotOk X i x) (he : JE X e te) (hs : swapsWith e (some (.Name x pos')) pos.line X.env = pure false := by rfl) : JS X (.Assign [.Name x pos'] e pos) (dSet i te) := js_set hN s.hN s.hl he hs s.hf
theorem pg_v {i : Nat} {x : Str} {pos : Pos} (hN : X.N.Nodup) (s : SlotOk X i x) : PG X (.Name x pos) (gName i) := pg_name hN s.hN s.hl s.hf

def FnG (P : Program) (w : World) (K : PySem.W.Frag) (mg : Str → Option Value) (base : Heap) (x : Str) (k : Nat) (sp : FSpec) (dargs : List Vl) : Prop :=
  ∃ (f : Addr) (fd : FuncData) (ps : List Str) (ds : List Value) (dvs : List V), Fnn P w K mg base CX0 k f fd ps (liftSp K sp) ∧ mg x = some (.ref f) ∧ PySem.W.keepIn K (.ref f) = true ∧ Binds K fd ps ds ∧ Vals dvs ds ∧ ∀ F A, RepVs K F A dargs dvs
theorem je_cg {j k : Nat} {x : Str} {p pos : Pos} {e : Expr} {es : List Expr} {ts : DA} {sp : FSpec} {dargs : List Vl} (F : FnG X.prog X.w X.K X.mg X.base x j sp dargs) (hr : GRoom k X.A) (hg : Gl X x) (ha : JA X (e :: es) ts) (hj : j ≤ k := by decide) (nd : (x == ("__debug__" : Str)) = false := by decide)
    (he : starEach (e :: es) X.env = (false, eval e X.env) :: starEach es X.env := by rfl) (hpl : (backTo pos (starEach es X.env)).any (·.1) = false := by rfl) :
    JE X (.Call (.Name x p) (e :: es) [] pos) (dCall sp dargs ts) := je_call ⟨nd, F⟩ (hr.mono hj) hg ha he hpl
def spOf (kp : Bool) (n N : Nat) (b : DS) : FSpec := fun args st Q => args.length = n ∧ b (endsOf kp st.length Q) (startM N args st)
theorem mkG {P : Program} {w : World} {K : PySem.W.Frag} {mg : Str → Option Value} {base : Heap} {x y qual : Str} {params : Arguments} {body : List Stmt} {scope : Scope} {kws : List (Str × V)} {f : Addr} {fd : FuncData} {N ps : List Str} {k n m : Nat} {b : DS} (kp : Bool) (hns : BaseOk K mg base) (htr : P.given.tree = none)
    (F : FunD K y qual params body scope [] kws f fd) (hm : mg x = some (.ref f)) (S : FnScope N ps scope) (hn : ps.length = n) (hN : N.length = m)
    (hb : ∀ (kV doc pm : Value) (an : Option Addr) (cdv ct : Value) (us : List Value), us.length = ps.length → bindArgs (PySem.W.fnOf y qual params body scope .none kV doc pm an cdv ct) ⟨us, []⟩ = pure (ps.zip us))
    (hd : ∀ (X : Cx) (cdv : Value) (A : Around) (outer : List Env) (s : Shared) (H : Hp) (E : XK), X = (cxOf CX0 P w K mg base N qual scope f cdv A outer s H E).nox → CodeIs K f cdv → Amb k X → JSs X body b) :
    FnG P w K mg base x (k + 1) (spOf kp n m b) [] := by
  subst hn hN
  exact ⟨f, fd, ps, [], [], fn_dtD kp hns htr F S hd fun args st0 Qd h => h, hm, F.kp, F.bindsN hb, .nil, fun _ _ => rfl⟩
end
end RT

set_option maxRecDepth 100000
set_option maxHeartbeats 4000000
namespace RT
open PySem PySem.Spec PyProof.Rows L2
abbrev rLt : DR2 := rInt (fun _ _ => True) fun i j => .bl (decide (i < j))
abbrev rLe : DR2 := rInt (fun _ _ => True) fun i j => .bl (decide (i ≤ j))
abbrev rGt : DR2 := rInt (fun _ _ => True) fun i j => .bl (decide (j < i))
abbrev rGe : DR2 := rInt (fun _ _ => True) fun i j => .bl (decide (j ≤ i))
abbrev rSub : DR2 := rInt (fun _ _ => True) fun i j => .int (i - j)
abbrev rMul : DR2 := rInt MulOk fun i j => .int (i * j)
abbrev rDiv : DR2 := rInt (fun _ j => j ≠ 0) fun i j => .int (i.fdiv j)
abbrev rMod : DR2 := rInt (fun _ j => j ≠ 0) fun i j => .int (i.fmod j)
abbrev rPow : DR2 := rInt CPow fun i j => .int (i ^ j.toNat)
theorem boot_len : bootBuiltins "len" = some (.builtin "len") := by decide +kernel
theorem boot_abs : bootBuiltins "abs" = some (.builtin "abs") := by decide +kernel
theorem boot_sum : bootBuiltins "sum" = some (.builtin "sum") := by decide +kernel
theorem boot_int : bootBuiltins "int" = some (.type "int") := by decide +kernel
theorem boot_tuple : bootBuiltins "tuple" = some (.type "tuple") := by decide +kernel
section
variable {P : Program} {w : World} {K : PySem.W.Frag} {mg : Str → Option Value} {base : Heap} {x y qual : Str} {params : Arguments} {body : List Stmt} {scope : Scope} {dvs : List V} {kws : List (Str × V)} {f : Addr} {fd : FuncData} {N ps : List Str} {k n m : Nat} {b : DS}
theorem mkGd {i : Int} (kp : Bool) (hns : BaseOk K mg base) (htr : P.given.tree = none)
    (F : FunD K y qual params body scope [.int i] kws f fd) (hm : mg x = some (.ref f)) (S : FnScope N ps scope) (hn : ps.length = n + 1) (hN : N.length = m)
    (hb : ∀ (T : Addr) (kV doc pm : Value) (an : Option Addr) (cdv ct : Value) (us its : List Value), us.length = n + 1 → its.length = 1 →
      ∃ k, bindArgs (PySem.W.fnOf y qual params body scope (.ref T) kV doc pm an cdv ct) ⟨us, []⟩ = seqItems? (.ref T) >>= k ∧ k (some its.toArray) = pure (ps.zip us))
    (hb1 : ∀ (T : Addr) (kV doc pm : Value) (an : Option Addr) (cdv ct : Value) (us its : List Value), us.length = n → its.length = 1 →
      ∃ k, bindArgs (PySem.W.fnOf y qual params body scope (.ref T) kV doc pm an cdv ct) ⟨us, []⟩ = seqItems? (.ref T) >>= k ∧ k (some its.toArray) = pure (ps.zip (us ++ its)))
    (hd : ∀ (X : Cx) (cdv : Value) (A : Around) (outer : List Env) (s : Shared) (H : Hp) (E : XK), X = (cxOf CX0 P w K mg base N qual scope f cdv A outer s H E).nox → CodeIs K f cdv → Amb k X → JSs X body b) :
    FnG P w K mg base x (k + 1) (spOf kp (n + 1) m b) [] ∧ FnG P w K mg base x (k + 1) (spOf kp (n + 1) m b) [.d (.int i)] := by
  subst hN
  have fn : Fnn P w K mg base CX0 (k + 1) f fd ps (liftSp K (spOf kp (n + 1) N.length b)) := fn_dtD kp hns htr F S hd fun args st0 Qd h => ⟨h.1.trans hn.symm, h.2⟩
  obtain ⟨ds, r, B⟩ := F.binds1 (ps := ps) (n + 1) 1 (by simp) (by simp [hn]) (fun T kV doc pm an cdv ct us its hu hi => by
    obtain ⟨k, e1, e2⟩ := hb T kV doc pm an cdv ct us its hu hi
    refine ⟨k, e1, ?_⟩
    rw [e2, List.drop_eq_nil_of_le (by rw [hi]; exact Nat.le_refl _), List.append_nil])
  obtain ⟨ds1, r1, B1⟩ := F.binds1 (ps := ps) n 0 (by simp) (by simp [hn]) (fun T kV doc pm an cdv ct us its hu hi => by
    obtain ⟨k, e1, e2⟩ := hb1 T kV doc pm an cdv ct us its hu hi
    exact ⟨k, e1, by rw [e2, List.drop_zero]⟩)
  have e : ds = [] := by
    cases r
    rfl
  subst e
  exact ⟨⟨f, fd, ps, [], [], fn, hm, F.kp, B, .nil, fun _ _ => rfl⟩, ⟨f, fd, ps, ds1, _, fn, hm, F.kp, B1, r1, fun _ _ => ⟨_, _, rfl, rv_int, rfl⟩⟩⟩
end
theorem mkF {P : Program} {w : World} {K : PySem.W.Frag} {mg : Str → Option Value} {base : Heap} {y qual : Str} {params : Arguments} {body : List Stmt} {scope : Scope} {dvs : List V} {kws : List (Str × V)} {f : Addr} {fd : FuncData} {N ps : List Str} {k n m : Nat} {b : DS} (kp : Bool) (hns : BaseOk K mg base) (htr : P.given.tree = none)
    (F : FunD K y qual params body scope dvs kws f fd) (S : FnScope N ps scope) (hn : ps.length = n) (hN : N.length = m)
    (hd : ∀ (X : Cx) (cdv : Value) (A : Around) (outer : List Env) (s : Shared) (H : Hp) (E : XK), X = (cxOf CX0 P w K mg base N qual scope f cdv A outer s H E).nox → CodeIs K f cdv → Amb k X → JSs X body b) :
    Fnn P w K mg base CX0 (k + 1) f fd ps (liftSp K (spOf kp n m b)) := by
  subst hn hN
  exact fn_dtD kp hns htr F S hd fun args st0 Qd h => h
end RT
namespace RT
open PySem PySem.Spec PyProof.Rows L2
theorem gl_of {X : Cx} {sc : Scope} {x : Str} (e : X.env.scope = sc) (h : sc.names.lookup x = some .globalImplicit) : Gl X x := by
  show X.env.scope.names.lookup x = some .globalImplicit
  rw [e]
  exact h
theorem slot_of {X : Cx} {sc : Scope} {N : List Str} {i : Nat} {x : Str} (e : X.env.scope = sc) (eN : X.N = N) (hfn : ∀ x, X.fn x = true) (h : N[i]? = some x) (hl : sc.names.lookup x = some .local ∨ sc.names.lookup x = some .cell) (h1 : (x == ("__debug__" : Str)) = false := by decide) (h2 : (x == ("__classdict__" : Str)) = false := by decide) : SlotOk X i x :=
  ⟨by rw [eN]; exact h, by rw [e]; exact hl, h1, h2, .inl (hfn x)⟩
theorem swap_ok {X : Cx} {x y : Str} {px py pt pt2 : Pos} {kt k2 : Nat} {a b : Expr} (hk : X.env.scope.kind = .function) (hx : X.env.scope.names.lookup x = some .local) (hy : X.env.scope.names.lookup y = some .local) (hxy : ([x, y].eraseDups.length != 2) = false) (hl : (py.line == px.line) = true)
    (hs1 : (match a with | .Starred .. => true | _ => false) = false) (hs2 : (match b with | .Starred .. => true | _ => false) = false) (hf : [a, b].all (foldedForSure 8) = false) (hc : [a, b].all (constantsAlone 8) = false) :
    swappedStores [.Tuple [.Name x px, .Name y py] kt pt] (.Tuple [a, b] k2 pt2) X.env = pure (some [x, y]) := by
  have kx : X.env.kindOf x = some .local := hx
  have ky : X.env.kindOf y = some .local := hy
  have hb : X.env.blockKind = .function := by unfold Env.blockKind; rw [hk]; rfl
  unfold swappedStores
  simp only [hb, List.length_cons, List.length_nil, List.head?_cons, Option.map_some, Option.getD_some, List.filterMap_cons, List.filterMap_nil, kx, ky, Expr.pos, hl, hf, hc, List.any_cons, List.any_nil, hs1, hs2]
  simp only [beq_self_eq_true, Bool.and_self, if_true, List.length_cons, List.length_nil, hxy]
  simp [hxy, hf, hc]
  intro h
  rcases h with h | h
  · cases a <;> first | (simp at h; done) | (simp at hs1; done)
  · cases b <;> first | (simp at h; done) | (simp at hs2; done)
end RT
namespace RT
open PySem PySem.Spec PyProof.Rows L2
def CstG (K : PySem.W.Frag) (mg : Str → Option Value) (x : Str) (d : Dt) : Prop := ∃ (v : V) (u : Value), mg x = some u ∧ RelV v u ∧ ∀ F, Rep K F d v
theorem CstG.at_ {X : Cx} {x : Str} {d : Dt} (c : CstG X.K X.mg x d) (g : Gl X x) (nd : (x == ("__debug__" : Str)) = false) : GlobD X x d := ⟨g, c, nd⟩
theorem blk_of {X : Cx} {sc : Scope} {N : List Str} {scope : Scope} {own : List (Str × Nat)} (eN : X.N = N) (eS : X.env.scope = sc) (h : blkC N sc scope own = true) : BlkOk X.N X.env.scope scope own := by
  rw [eN, eS]
  exact blkOk_by h
end RT

set_option maxRecDepth 100000
set_option maxHeartbeats 4000000
namespace RT
open PySem PySem.Spec PyProof.Rows L2

mutual
def vB (K : PySem.W.Frag) : Dt → Value → Bool
  | .non, u => decide (u = .none)
  | .bl b, u => decide (u = .bool b)
  | .int i, u => (match u with
    | .int j _ => decide (j = i)
    | _ => false)
  | .str s, u => (match u with
    | .str t _ => decide (t = s)
    | _ => false)
  | .tup ds, u => (match u with
    | .ref a => (match K.lookup a with
      | some ⟨.type c, _, .seq its _, _⟩ => decide (c = "tuple") && (decide (its.size ≤ sizeLine) && vBs K ds its.toList)
      | _ => false)
    | _ => false)
  | .lst _, _ => false
def vBs (K : PySem.W.Frag) : List Dt → List Value → Bool
  | [], [] => true
  | d :: ds, u :: us => vB K d u && vBs K ds us
  | _, _ => false
end
theorem band {a b : Bool} (h : (a && b) = true) : a = true ∧ b = true := Bool.and_eq_true_iff.mp h
mutual
theorem vB_ok {K : PySem.W.Frag} : ∀ {d : Dt} {u : Value}, vB K d u = true → ∃ v, RelV v u ∧ ∀ F, Rep K F d v
  | .non, u, h => ⟨.non, of_decide_eq_true (p := u = .none) h, fun _ => rfl⟩
  | .bl b, u, h => ⟨.bl b, of_decide_eq_true (p := u = .bool b) h, fun _ => rfl⟩
  | .int i, u, h => by
    cases u with
    | int j t =>
      have e : j = i := of_decide_eq_true h
      subst e
      exact ⟨.int j, ⟨t, rfl⟩, fun _ => rfl⟩
    | _ => cases h
  | .str s, u, h => by
    cases u with
    | str y t =>
      have e : y = s := of_decide_eq_true h
      subst e
      exact ⟨.str y, ⟨t, rfl⟩, fun _ => rfl⟩
    | _ => cases h
  | .tup ds, u, h => by
    cases u with
    | ref a =>
      have h' : (match K.lookup a with
        | some ⟨.type c, _, .seq its _, _⟩ => decide (c = "tuple") && (decide (its.size ≤ sizeLine) && vBs K ds its.toList)
        | _ => false) = true := h
      cases q : K.lookup a with
      | none =>
        rw [q] at h'
        cases h'
      | some o =>
        obtain ⟨oc, od, dt, osl⟩ := o
        rw [q] at h'
        cases oc with
        | type c =>
          cases dt with
          | seq its n =>
            obtain ⟨h1, h2⟩ := band (show (decide (c = "tuple") && (decide (its.size ≤ sizeLine) && vBs K ds its.toList)) = true from h')
            obtain ⟨h3, h4⟩ := band h2
            obtain ⟨vs, r, p⟩ := vBs_ok h4
            exact ⟨.ref a, rfl, fun F => ⟨a, vs, rfl, .inr ⟨_, its, n, q, congrArg Value.type (of_decide_eq_true h1), rfl, of_decide_eq_true h3, r⟩, p F⟩⟩
          | _ => cases h'
        | _ => cases dt <;> cases h'
    | _ => cases h
theorem vBs_ok {K : PySem.W.Frag} : ∀ {ds : List Dt} {us : List Value}, vBs K ds us = true → ∃ vs, Vals vs us ∧ ∀ F, Reps K F ds vs
  | [], [], _ => ⟨[], .nil, fun _ => rfl⟩
  | [], _ :: _, h => by cases h
  | _ :: _, [], h => by cases h
  | d :: ds, u :: us, h => by
    obtain ⟨h1, h2⟩ := band (show (vB K d u && vBs K ds us) = true from h)
    obtain ⟨v, r, p⟩ := vB_ok h1
    obtain ⟨vs, r2, p2⟩ := vBs_ok h2
    exact ⟨v :: vs, .cons r r2, fun F => ⟨v, vs, rfl, p F, p2 F⟩⟩
end
def cstB (K : PySem.W.Frag) (x : Str) (d : Dt) : Bool := match PySem.W.nsIn K mainGlobals x with
  | some (some u) => vB K d u
  | _ => false
theorem cst_of {K : PySem.W.Frag} {h : Heap} {mg : Str → Option Value} {x : Str} {d : Dt} (X : K.In h) (G : h.Ns mainGlobals mg) (c : cstB K x d = true) : CstG K mg x d := by
  unfold cstB at c
  cases e : PySem.W.nsIn K mainGlobals x with
  | none =>
    rw [e] at c
    cases c
  | some o =>
    rw [e] at c
    cases o with
    | none => cases c
    | some u =>
      obtain ⟨v, r, p⟩ := vB_ok (show vB K d u = true from c)
      exact ⟨v, u, PySem.W.mg_of X G e, r, p⟩

theorem lookup_relabel_free {env : Env} : ∀ {names : List (Str × NameKind)} {x : Str}, names.lookup x = some .free →
    (names.map fun (n, k) => if (k == NameKind.free && env.scope.kind == .function && env.kindOf n == some .cell) then (n, NameKind.cell) else (n, k)).lookup x = some .cell ∨
    (names.map fun (n, k) => if (k == NameKind.free && env.scope.kind == .function && env.kindOf n == some .cell) then (n, NameKind.cell) else (n, k)).lookup x = some .free
  | [], _, h => by cases h
  | (n, k) :: r, x, h => by
    rw [List.map_cons]
    by_cases hc : (k == NameKind.free && env.scope.kind == .function && env.kindOf n == some .cell) = true
    · simp only [if_pos hc]
      cases hx : x == n with
      | true =>
        simp [List.lookup_cons, hx]
      | false =>
        simp only [List.lookup_cons, hx] at h ⊢
        exact lookup_relabel_free h
    · simp only [if_neg hc]
      cases hx : x == n with
      | true =>
        simp only [List.lookup_cons, hx] at h ⊢
        exact .inr h
      | false =>
        simp only [List.lookup_cons, hx] at h ⊢
        exact lookup_relabel_free h
theorem vis_free {scope : Scope} {cl : List (Str × Addr)} {C : Addr} {env : Env} {x : Str} (h : scope.names.lookup x = some .free) : Vis (compEnvC scope cl C env).scope x := (lookup_relabel_free h).elim (fun h => .inr (.inl h)) fun h => .inr (.inr h)
end RT

set_option maxRecDepth 100000
set_option maxHeartbeats 4000000
namespace RT
open PySem PySem.Spec PyProof.Rows L2

def reprD (x : Dt) : Str := (toPy x).shown
def shows (x : Dt) : Prop := (toPy x).showable = true ∧ (toPy x).depth ≤ 60 ∧ (reprD x).length ≤ sizeLine
def bRepr : DRB := fun xs P => match xs with
  | [x] => shows x ∧ P (.str (reprD x))
  | _ => False
theorem noDictD : ∀ x : Dt, (toPy x).hasDict = false := by
  have go : ∀ n : Nat, ∀ x : Dt, sizeOf x ≤ n → (toPy x).hasDict = false := by
    intro n
    induction n with
    | zero =>
      intro x h
      cases x <;> simp at h
    | succ n ih =>
      intro x h
      have all : ∀ ds : List Dt, sizeOf ds ≤ n → PyData.hasDictAll (toPys ds) = false := by
        intro ds
        induction ds with
        | nil =>
          intro _
          simp [toPys, PyData.hasDictAll]
        | cons d ds ih2 =>
          intro hd
          simp at hd
          simp only [toPys, PyData.hasDictAll, ih d (by omega), ih2 (by omega), Bool.or_self]
      cases x with
      | tup ds =>
        simp at h
        simp only [toPy, PyData.hasDict]
        exact all ds (by omega)
      | lst ds =>
        simp at h
        simp only [toPy, PyData.hasDict]
        exact all ds (by omega)
      | _ => simp [toPy, PyData.hasDict]
  intro x
  exact go _ x (Nat.le_refl _)
section
variable {X : Cx}
theorem call_reprD {k : Nat} (hr : GRoom k X.A) : CallR X (.builtin "repr") (fun xs H Q => ∃ v d, xs = [v] ∧ Dp X.K H v d ∧ d.showable = true ∧ d.depth ≤ 60 ∧ d.shown.length ≤ sizeLine ∧ d.hasDict = false ∧ Q (.str d.shown) H) := by
  intro pins s σ H xs us Q I r h
  obtain ⟨v, d, rfl, hd, h1, h2, h3, h4, q⟩ := h
  have hlen := r.length
  cases us with
  | nil => cases hlen
  | cons u us =>
    cases us with
    | cons a b => cases hlen
    | nil =>
      obtain ⟨u', e, r'⟩ := r.get (i := 0) (x := v) rfl
      cases e
      obtain ⟨as, rd⟩ := Dp.reads I d v u hd r'
      have hu := hr.hu
      have rd0 := rd
      cases rd with
      | none => exact PySem.P.repr_of_none ⟨.str _, H, I.tok _, ⟨_, rfl⟩, q⟩
      | bool => exact PySem.P.repr_of_bool ⟨.str _, H, I.tok _, ⟨_, rfl⟩, q⟩
      | int => exact PySem.P.repr_of_int (by simpa [PyData.showable] using h1) ⟨.str _, H, I.tok _, ⟨_, rfl⟩, q⟩
      | str => exact PySem.P.repr_of_str ⟨.str _, H, I.tok _, ⟨_, rfl⟩, q⟩ h3
      | _ => exact _root_.PySem.repr_of_reads' rd0 h1 (PyData.noDict_hsm h4) hr.gd (by omega) (fun b o e => e) (fun h' u tk hk => ⟨.str _, H, I.kept hk, ⟨_, rfl⟩, q⟩) h3
theorem b_repr {k : Nat} (hr : GRoom k X.A) : BiD X (.builtin "repr") bRepr := ⟨_, call_reprD hr, fun W F A m σ H xs us P Q G rs q c => by
  unfold bRepr at q
  split at q
  · rename_i x
    obtain ⟨u, rfl, ru⟩ := rb1 rs
    exact ⟨u, toPy x, rfl, dp_of (rep_up G.ext ru), q.1.1, q.1.2.1, q.1.2.2, noDictD x, c F H _ _ (Same.refl _) G rep_str q.2⟩
  · exact q.elim⟩
theorem boot_repr : bootBuiltins "repr" = some (.builtin "repr") := by kernel_rfl
end
end RT

set_option maxRecDepth 100000
set_option maxHeartbeats 4000000
namespace RT
open PySem PySem.Spec PyProof.Rows L2

section
variable {X : Cx}
end
end RT

set_option maxRecDepth 100000
set_option maxHeartbeats 4000000
namespace RT
open PySem PySem.Spec PyProof.Rows L2

section
variable {X : Cx}
def ipExt (K : PySem.W.Frag) : TIp := fun x y H Q => ∃ l b xs zs, x = .ref l ∧ y = .ref b ∧ H l = some (.lst xs) ∧ Rd H b (.lst zs) ∧ xs.length + zs.length ≤ sizeLine ∧ Q (.ref l) (upd H l (.lst (xs ++ zs)))
theorem ip_ext : PIp X .Add (ipExt X.K) := by
  intro pins s σ H x y v u Q I rx ry h
  obtain ⟨l, b, xs, zs, rfl, rfl, hH, hB, hz, q⟩ := h
  cases rx
  cases ry
  obtain ⟨z, its, n, r, hl, e⟩ := I.lstM hH
  obtain ⟨z2, its2, n2, r2, e2⟩ := hB.ok I.hok
  have hl2 : zs.length = its2.length := r2.length
  have hsz : its.toArray.size + its2.toArray.size ≤ sizeLine := by rw [List.size_toArray, List.size_toArray]; omega
  have hlong : ¬ (!its.toArray.isEmpty && Builtin.List.listTooLong (its.toArray.size + its2.toArray.size)) = true := by
    rw [notLongL hsz, Bool.and_false]
    exact Bool.false_ne_true
  refine iadd_road ⟨_, e, rfl⟩ ⟨_, e2, rfl⟩ (call_meets PySem.F.slot_list_iadd ⟨_, e, rfl⟩ PySem.F.entry_list_iadd (PySem.F.args_list_iadd_2 _ _) (AutoSeq1.list___iadd___list_list_0 l its.toArray n b its2.toArray n2 hlong (by rw [List.size_toArray]; omega) (by omega)) ⟨e, e2, ?_⟩)
  refine ⟨.ref l, _, I.lset (its' := its ++ its2) (t' := s.toks) hH e (by simp) (r.append r2) ?_, rfl, q⟩
  rw [List.length_append]
  omega
def dAugL (i : Nat) (te : DE) : DS := fun E m => match m.sl[i]? with
  | some (some (.c k)) => te m fun v m1 => onD v fun y => match y with
    | .lst ys => onC m1.st k fun xs => xs.length + ys.length ≤ sizeLine ∧ E.nx ⟨m1.sl.set i (some (.c k)), m1.st.set k (.lst (xs ++ ys))⟩
    | _ => False
  | _ => False
theorem js_augL {i : Nat} {x : Str} {e : Expr} {te : DE} {pos pos' : Pos} (hN : X.N.Nodup) (hi : X.N[i]? = some x) (hx : Loc X.env.scope x) (he : JE X e te) (hf : X.fn x = true ∨ X.env.scope.names.lookup x = some .local := by first | exact .inl rfl | exact .inr rfl | assumption) :
    JS X (.AugAssign (.Name x pos') .Add e pos) (dAugL i te) := by
  refine (ps_aug hN hi hx he ip_ext hf).imp fun D σ H hh => ?_
  obtain ⟨W, F, A, m, E, G, h, c⟩ := hh
  unfold dAugL at h
  split at h
  · rename_i k ey
    obtain ⟨u, eu, ru⟩ := G.sl i _ ey
    obtain ⟨a, ha, rfl⟩ := id ru
    refine ⟨.ref a, eu, W, F, A, m, _, G, h, fun F1 A1 v m1 H1 s1 p1 G1 q1 w r1 => ?_⟩
    obtain ⟨y, rfl, q⟩ := onD_elim q1
    cases y with
    | lst ys =>
      obtain ⟨xs, ex, hz, q⟩ := onC_elim q
      obtain ⟨a', vs, g1, g2, g3, _⟩ := G1.st k xs ex
      have ha1 : RepV X.K F1 A1 (.c k) (.ref a) := RepV.mono s1 p1 ru
      obtain ⟨a2, hka, ek⟩ := id ha1
      cases ek
      rw [hka] at g1
      cases g1
      have r1' : Rep X.K F1 (.lst ys) w := r1
      simp only [Rep] at r1'
      obtain ⟨b, ws, rfl, hb, rw'⟩ := r1'
      refine ⟨a, b, vs, ws, rfl, rfl, g2, rd_mono G1.ext hb, by rw [← g3.length, ← rw'.length]; exact hz, ?_⟩
      have G2 := G1.write ex hka (g3.append rw')
      exact c.nx F1 A1 _ _ _ s1 p1 (G2.store (v := .c k) ⟨a, hka, rfl⟩) q
    | _ => exact q.elim
  · exact h.elim
def rEqT : DR2 := fun x y P => match x, y with
  | .str a, .str b => P (.bl (decide (a = b)))
  | _, _ => False
theorem o_eqT : OpD X (compareOp .Eq) rEqT := ⟨_, L2.op_eq, fun W F A m σ H x y u v P Q G rx ry q c => by
  unfold rEqT at q
  split at q
  · rename_i a b
    rw [repB_str rx, repB_str ry]
    have e : decide (V.str a = V.str b) = decide (a = b) := decide_eq_decide.mpr ⟨fun h => by injection h, fun h => by rw [h]⟩
    refine ⟨rfl, ?_⟩
    rw [e]
    exact c F H _ _ (Same.refl _) G rep_bl q
  · exact q.elim⟩
end
end RT

set_option maxRecDepth 100000
set_option maxHeartbeats 4000000
namespace RT
open PySem PySem.Spec PyProof.Rows L2

def dGxGo (isAll : Bool) (sl : List (Option Vl)) (slw : List (Option Vl)) (g : Tgt) (te : DE) (all : List Dt) (lk : Option Nat) (K : Bool → M → Prop) : List Dt → List Cell → Prop
  | [], st => lockOk lk all ⟨sl, st⟩ ∧ K isAll ⟨sl, st⟩
  | x :: xs, st => lockOk lk all ⟨sl, st⟩ ∧ tgD g (.d x) ⟨slw, st⟩ fun m1 => te m1 fun v m2 => match v with
    | .d (.bl b) => if b = isAll then dGxGo isAll sl slw g te all lk K xs m2.st else K b ⟨sl, m2.st⟩
    | _ => False
def dGx (isAll : Bool) (di : DI) (g : Tgt) (te : DE) (vs : List Nat) : DE := fun m Q => di m fun xs lk m1 => dGxGo isAll m1.sl (wipeD m1.sl vs) g te xs lk (fun b m2 => Q (.d (.bl b)) m2) xs m1.st
theorem Good.tabbed {K : PySem.W.Frag} {W F : Hp} {A : List Addr} {m : M} {σ : L2.St} {H H' : Hp} {q : Addr × Addr} (G : Good K W F A m σ H) (hq : q ∈ tabsK K) (t : GxR.Tabbed q.2 H H') : Good K W F A m σ H' := by
  obtain ⟨t0, t1, t2⟩ := G.tb q hq
  refine ⟨fun b x e => ?_, fun b x e => ?_, G.dj, G.slen, G.sl, G.len, fun k xs e => ?_, G.nd, fun r hr => ?_⟩
  · rw [t.2 b (fun z => by rw [z, t1] at e; cases e)]
    exact G.ext _ _ e
  · rw [t.2 b (fun z => by rw [z, t2] at e; cases e)]
    exact G.hid _ _ e
  · obtain ⟨a, vs, h1, h2, h3⟩ := G.st k xs e
    exact ⟨a, vs, h1, by rw [t.2 a (tab_ne t0 h2).symm]; exact h2, h3⟩
  · obtain ⟨r0, r1⟩ := G.tb r hr
    refine ⟨?_, r1⟩
    by_cases h : r.2 = q.2
    · rw [h]
      exact t.1
    · obtain ⟨ps, e, ok⟩ := r0
      exact ⟨ps, by rw [t.2 _ h]; exact e, ok⟩
theorem wipe_idem : ∀ (l : List Nat) (vs : List Nat) (σ : L2.St), (∀ i ∈ l, i ∈ vs) → L2.wipe (L2.wipe σ vs) l = L2.wipe σ vs := by
  intro l
  induction l with
  | nil =>
    intro vs σ _
    rfl
  | cons z l ih =>
    intro vs σ hz
    show (L2.wipe (L2.wipe σ vs) l).set z none = L2.wipe σ vs
    rw [ih vs σ (fun i hi => hz i (List.mem_cons_of_mem _ hi))]
    have hm : z ∈ vs := hz z List.mem_cons_self
    apply List.ext_getElem?
    intro j
    rw [List.getElem?_set]
    by_cases hj : z = j
    · rw [if_pos hj]
      subst hj
      split
      · rename_i hl
        cases q : (L2.wipe σ vs)[z]? with
        | none =>
          rw [List.getElem?_eq_none_iff] at q
          omega
        | some o =>
          cases o with
          | none => rfl
          | some x => exact absurd hm (wipe_some q).2
      · rename_i hl
        exact (List.getElem?_eq_none_iff.mpr (by omega)).symm
    · rw [if_neg hj]
theorem lift_gx {K : PySem.W.Frag} {q : Addr × Addr} (hq : q ∈ tabsK K) {isAll : Bool} {di : DI} {g : Tgt} {te : DE} {vs : List Nat} (hv : ∀ i ∈ tgSlots g, i ∈ vs) {σ : L2.St} {H : Hp} {Q : VK} (h : lift K (dGx isAll di g te vs) σ H Q) : RG.tGx K q.2 isAll (liftI K di) (tgH K g) (lift K te) vs σ H Q := by
  obtain ⟨W, F, A, m, Qd, G, h, c⟩ := h
  refine ⟨W, F, A, m, _, G, h, fun F1 A1 xs lk m1 H1 s1 p1 G0 q1 J w => ⟨(G0.tb q hq).1, fun H1' hT => ?_⟩⟩
  have G1 := G0.tabbed hq hT
  let Kd : Bool → M → Prop := fun b m2 => Qd (.d (.bl b)) m2
  refine ⟨fun i n H' => ∃ F' A' st', Same F1 F' ∧ A1 <+: A' ∧ Good K W F' A' ⟨m1.sl, st'⟩ σ H' ∧ i + n = xs.length ∧ dGxGo isAll m1.sl (wipeD m1.sl vs) g te xs lk Kd (xs.drop i) st', ⟨xs.length, F1, A1, m1.st, Same.refl _, pre_refl _, G1, Nat.zero_add _, q1⟩, ?_⟩
  rintro i n H2 ⟨F2, A2, st2, s2, p2, G2, en, q2⟩
  by_cases hlt : i < xs.length
  · refine .inr ?_
    have ed : xs.drop i = xs[i] :: xs.drop (i + 1) := List.drop_eq_getElem_cons hlt
    rw [ed] at q2
    obtain ⟨hl, q2⟩ := q2
    obtain ⟨hgo, hy⟩ := w.go W F2 A2 ⟨m1.sl, st2⟩ σ H2 i xs[i] s2 p2 G2 hl (List.getElem?_eq_getElem hlt)
    refine ⟨hgo, fun H' => ∃ F' A' st', Same F1 F' ∧ A1 <+: A' ∧ Good K W F' A' ⟨m1.sl, st'⟩ σ H' ∧ dGxGo isAll m1.sl (wipeD m1.sl vs) g te xs lk Kd (xs.drop (i + 1)) st', fun H' hN => ?_, fun v H3 y => ?_⟩
    · obtain ⟨F', A', st', s', p', G', q'⟩ := hN
      exact ⟨n - 1, by omega, F', A', st', s', p', G', by omega, q'⟩
    · obtain ⟨F3, s3, G3, r3⟩ := hy v H3 y
      have G3w := G3.wipe vs
      have outer : ∀ {F' A' σ' m' H'}, Same F3 F' → A2 <+: A' → Good K W F' A' m' σ' H' → Good K W F' A' ⟨m1.sl, m'.st⟩ σ H' := fun {F' A' σ' m' H'} sF pA G' =>
        ⟨G'.ext, G'.hid, G'.dj, G1.slen, fun i v e => by
          obtain ⟨u, h1, h2⟩ := G1.sl i v e
          exact ⟨u, h1, RepV.mono (s2.trans (s3.trans sF)) (p2.trans pA) h2⟩, G'.len, G'.st, G'.nd, G'.tb⟩
      refine tg_ok (m := ⟨wipeD m1.sl vs, st2⟩) (v := .d xs[i]) G3w r3 q2 fun m' σ' G' hw q' => ⟨?_, ?_⟩
      · have h1 := hw vs hv
        rw [h1]
        exact wipe_idem vs vs σ (fun _ h => h)
      · refine ⟨W, F3, A2, m', _, G', q', fun F4 A4 z m4 H4 s4 p4 G4 q4 u4 r4 => ?_⟩
        have q5 : ∃ b, z = .d (.bl b) ∧ (if b = isAll then dGxGo isAll m1.sl (wipeD m1.sl vs) g te xs lk Kd (xs.drop (i + 1)) m4.st else Kd b ⟨m1.sl, m4.st⟩) := by
          cases z with
          | d x =>
            cases x with
            | bl b => exact ⟨b, rfl, q4⟩
            | _ => exact q4.elim
          | c k => exact q4.elim
        obtain ⟨b, ez, q6⟩ := q5
        subst ez
        have eu : u4 = .bl b := repB_bl (H := H4) (K := K) (F := F4) r4
        refine ⟨b, eu, ?_⟩
        by_cases hb : b = isAll
        · rw [if_pos hb] at q6 ⊢
          exact ⟨F4, A4, m4.st, s2.trans (s3.trans s4), p2.trans p4, outer s4 p4 G4, q6⟩
        · rw [if_neg hb] at q6 ⊢
          exact c F4 A4 _ _ _ (s1.trans (s2.trans (s3.trans s4))) (p1.trans (p2.trans p4)) (outer s4 p4 G4) q6 _ rv_bl
  · have e : i = xs.length := by omega
    subst e
    rw [List.drop_length] at q2
    obtain ⟨hl, q2⟩ := q2
    exact .inl ⟨w.stop W F2 A2 ⟨m1.sl, st2⟩ σ H2 s2 p2 G2 hl, c F2 A2 _ _ _ (s1.trans s2) (p1.trans p2) G2 q2 _ rv_bl⟩
def InGen (X : Cx) : Prop := ∃ q ∈ tabsK X.K, X.env.code = .ref q.1
theorem ingen_of {X : Cx} {p : Str × Option Str} (h : CodeIs X.K (He.fAd X.K p) X.env.code) (hp : p ∈ gdefs) (ht : (tabK X.K p).isSome = true) : InGen X := by
  obtain ⟨oc, od, fd, osl, lk, ec⟩ := h
  obtain ⟨q, e⟩ := Option.isSome_iff_exists.mp ht
  refine ⟨q, List.mem_filterMap.mpr ⟨p, hp, e⟩, ?_⟩
  unfold tabK at e
  rw [lk] at e
  dsimp only at e
  rw [← ec]
  cases hc : fd.code with
  | ref c =>
    rw [hc] at e
    dsimp only at e
    split at e
    · split at e
      · cases e
        rfl
      · cases e
    · cases e
  | _ =>
    rw [hc] at e
    cases e
theorem gr_gx {k : Nat} {A A' : Around} (r : GRoom (k + 1) A) (h : RG.GAo A A') : GRoom k A' :=
  ⟨⟨h.hd, by have := r.room.dp; have := h.dp; omega, by have := r.room.un; have := h.un; omega⟩, by rw [h.gd]; exact r.gd, by have := r.dp; have := h.dp; omega⟩
section
variable {X : Cx} {pos p gpos : Pos} {elt tg iter : Expr} {scope : Scope} {own' : List (Str × Nat)} {di : DI} {g : Tgt} {te : DE} {k : Nat}
structure GScope (scope : Scope) : Prop where
  co : scope.isCoroutine = false
  cell : ∀ y ∈ scope.names, y.2 ≠ .cell
  dot : scope.names.lookup (".0" : Str) = some NameKind.local
def gscB (s : Scope) : Bool := !s.isCoroutine && (s.names.all fun y => y.2 != .cell) && (s.names.lookup (".0" : Str) == some NameKind.local)
theorem gsc_of {s : Scope} (h : gscB s = true) : GScope s := by
  obtain ⟨h, h3⟩ := Bool.and_eq_true_iff.mp h
  obtain ⟨h1, h2⟩ := Bool.and_eq_true_iff.mp h
  exact ⟨by simpa using h1, fun y hy => by simpa using List.all_eq_true.mp h2 y hy, by simpa using h3⟩
theorem je_any (amb : Amb (k + 1) X) (ig : InGen X) (gs : GScope scope) (hgl : Gl X "any") (hm : X.mg "any" = none) (hv : ∀ i ∈ tgSlots g, i ∈ own'.map (·.2)) (hc : X.calm = true) (hN : X.N.Nodup) (hi : JI X tg iter di) (ok : BlkOk X.N X.env.scope scope own')
    (hg : ∀ (s : Shared) (H : Hp) (C : Addr) (code : Value) (cl : List (Str × Addr)) (fp : List Addr) (A' : Around), RG.GAo X.A A' → PG (RG.GCx X s H (genEnv scope cl C code builtinsNs X.env) fp A') tg (tgH X.K g))
    (he : ∀ (s : Shared) (H : Hp) (C : Addr) (code : Value) (cl : List (Str × Addr)) (fp : List Addr) (A' : Around), RG.GAo X.A A' → JE (RG.GCx X s H (genEnv scope cl C code builtinsNs X.env) fp A') elt te)
    (hs : ∀ v, genFold iter X.env v = pure v := by intro _; rfl)
    (hse : starEach [.GeneratorExp elt [⟨tg, iter, [], 0⟩] scope gpos] X.env = (false, eval (.GeneratorExp elt [⟨tg, iter, [], 0⟩] scope gpos) X.env) :: starEach [] X.env := by rfl) :
    JE X (.Call (.Name "any" p) [.GeneratorExp elt [⟨tg, iter, [], 0⟩] scope gpos] [] pos) (dGx false di g te (own'.map (·.2))) := by
  obtain ⟨q, hq, hcode⟩ := ig
  exact (RG.pe_any (te := lift X.K te) amb.rm.room.hd (by have := amb.rm.dp; omega) hgl hm hc hN (amb.tb q hq) hcode hi ok gs.co gs.cell gs.dot hg he hs hse).imp fun _ _ _ h => lift_gx hq hv h
end

def dNever : DS := fun _ _ => False
theorem js_never {X : Cx} {st : Stmt} : JS X st dNever := ⟨fun pins s σ H D I ⟨W, F, A, m, E, G, h, c⟩ => h.elim⟩
end RT

set_option maxRecDepth 100000
set_option maxHeartbeats 4000000
namespace RT
open PySem PySem.Spec PyProof.Rows L2

theorem walks_zipT {K : PySem.W.Frag} {F : Hp} {A : List Addr} {a b : Addr} {vs us : List V} {xs ys : List Dt} (s : SqT K F a vs) (r : Reps K F xs vs) (s' : SqT K F b us) (r' : Reps K F ys us) : Walks K (RZ.ItzT K a b) F A (zipD xs ys) none where
  go := fun W F' A' m σ H i x sF p G _ hi => by
    obtain ⟨y, z, hy, hz, rfl⟩ := zipD_get xs ys i x hi
    obtain ⟨v, hv, rv⟩ := r.get hy
    obtain ⟨w, hw, rw'⟩ := r'.get hz
    have sq : SqT K H a vs := seqT_mono (sF.trans G.ext) s
    have sq' : SqT K H b us := seqT_mono (sF.trans G.ext) s'
    refine ⟨⟨vs, us, v, w, sq, sq', hv, hw⟩, fun u H' y => ?_⟩
    obtain ⟨T, v', w', rfl, nT, rfl, y1, y2⟩ := y
    cases (y1 vs sq).symm.trans hv
    cases (y2 us sq').symm.trans hw
    exact tup_laid G nT (.cons (Rep.mono sF rv) (.cons (Rep.mono sF rw') .nil))
  stop := fun W F' A' m σ H sF p G _ => ⟨vs, us, seqT_mono (sF.trans G.ext) s, seqT_mono (sF.trans G.ext) s', by rw [zipD_len, ← r.length, ← r'.length]; omega⟩
def dZipT (ts : DA) : DI := fun m Q => ts m fun vs m1 => match vs with
  | [.d (.tup xs), .d (.tup ys)] => Q (zipD xs ys) none m1
  | _ => False
section
variable {X : Cx} {ts : DA} {e e2 : Expr} {p pos tpos : Pos} {elts : List Expr} {kk : Nat}
theorem ji_zipT (hg : Gl X "zip") (hm : X.mg "zip" = none) (ha : JA X [e, e2] ts)
    (hs : starEach [e, e2] X.env = (false, eval e X.env) :: starEach [e2] X.env := by rfl) (hpl : (backTo pos (starEach [e2] X.env)).any (·.1) = false := by rfl) :
    JI X (.Tuple elts kk tpos) (.Call (.Name "zip" p) [e, e2] [] pos) (dZipT ts) := by
  refine (RZ.pi_zipA hg hm ha hs hpl).imp fun σ H R hh => ?_
  obtain ⟨W, F, A, m, Qd, G, h, c⟩ := hh
  refine ⟨W, F, A, m, _, G, h, fun F1 A1 vs m1 H1 s1 p1 G1 q1 us r1 => ?_⟩
  split at q1
  · rename_i xs ys
    obtain ⟨u, w, rfl, ru, rw'⟩ := rv2 r1
    have r' : Rep X.K F1 (.tup xs) u := ru
    have r2' : Rep X.K F1 (.tup ys) w := rw'
    simp only [Rep] at r' r2'
    obtain ⟨a, ws, rfl, hs, rs⟩ := r'
    obtain ⟨b, ts, rfl, hs', rs'⟩ := r2'
    exact ⟨a, b, ws, ts, rfl, .inr ⟨seqT_mono G1.ext hs, seqT_mono G1.ext hs', c F1 A1 _ none m1 H1 s1 p1 G1 q1 _ (walks_zipT hs rs hs' rs')⟩⟩
  · exact q1.elim
end
end RT

set_option maxRecDepth 100000
set_option maxHeartbeats 4000000
namespace RT
open PySem PySem.Spec PyProof.Rows L2
section
variable {X : Cx} {pos : Pos}
end
end RT

set_option maxRecDepth 100000
set_option maxHeartbeats 4000000
namespace RT
open PySem PySem.Spec PyProof.Rows L2
section
variable {X : Cx} {o e : Expr} {es : List Expr} {to : DE} {ts : DA} {pos : Pos}

end
end RT

set_option maxRecDepth 100000
set_option maxHeartbeats 4000000
namespace RT
open PySem PySem.Spec PyProof.Rows L2
section
variable {X : Cx} {pos : Pos} {e t1 t2 : Expr}
end
end RT

set_option maxRecDepth 100000
set_option maxHeartbeats 4000000
namespace RT
open PySem PySem.Spec PyProof.Rows L2
section
variable {X : Cx} {pos : Pos} {e tg : Expr} {te : DE}
def dAsgL (t : DE) (is : List Nat) : DS := fun E m => t m fun v m1 => match v with
  | .d (.lst xs) => xs.length = is.length ∧ E.nx ⟨setsD is xs m1.sl, m1.st⟩
  | _ => False
theorem lst_elim {v : Vl} {P : List Dt → Prop} (h : match v with
  | .d (.lst xs) => P xs
  | _ => False) : ∃ xs, v = .d (.lst xs) ∧ P xs := by
  split at h
  · exact ⟨_, rfl, h⟩
  · exact h.elim
theorem js_asgL {is : List Nat} (he : JE X e te) (hg : PG X tg (gLst X.K is.length (gNames is))) (hs : swapsWithSole [tg] e pos.line X.env = pure false := by rfl) (hw : swappedStores [tg] e X.env = pure none := by rfl)
    (h1 : (assignEach [tg] X.env).map (·.2) = [assign tg X.env] := by rfl) : JS X (.Assign [tg] e pos) (dAsgL te is) := by
  refine (ps_asg he hg hs hw h1).imp fun D σ H hh => ?_
  obtain ⟨W, F, A, m, E, G, h, c⟩ := hh
  refine ⟨W, F, A, m, _, G, h, fun F1 A1 v m1 H1 s1 p1 G1 q1 u r1 => ?_⟩
  obtain ⟨xs, rfl, hl, q⟩ := lst_elim q1
  have r' : Rep X.K F1 (.lst xs) u := r1
  simp only [Rep] at r'
  obtain ⟨a, vs, rfl, hr, rs⟩ := r'
  have hlv : vs.length = is.length := by rw [← rs.length]; exact hl
  exact ⟨a, vs, rfl, .inl (rd_mono G1.ext hr), hlv, gNames_ok hlv (c.nx F1 A1 _ _ H1 s1 p1 (G1.sets rs) q)⟩
end
end RT

set_option maxRecDepth 100000
set_option maxHeartbeats 4000000

namespace RT
open PySem PySem.Spec PyProof.Rows L2
section
variable {prog : Program} {w : World} {A : Around} {E : Value → Shared → Prop} {s : Shared}
end
section
variable {X : Cx}
end
end RT

set_option maxRecDepth 100000
set_option maxHeartbeats 4000000

namespace RT
open PySem PySem.Spec PyProof.Rows L2

def bmVE : List Value := [.type "ValueError", .type "Exception", .type "BaseException", .type "object"]
structure ExcF (K : PySem.W.Frag) (x : Str) (C : Addr) : Prop where
  at_ : PySem.W.nsIn K mainGlobals x = some (some (.ref C))
  ex : PySem.W.excIn K C bmVE "ValueError.__new__" = true
  kp : PySem.W.keepIn K (.ref C) = true
  sub : PySem.W.subIn K (.ref C) (.type "BaseException") = some true
  ty : PySem.W.typeIn K (.ref C) = some (.type "type")
  cc : ExcC K C

abbrev DX := M → (Str → M → Prop) → Prop
abbrev FSpecX := List Vl → List Cell → (Str → List Cell → Prop) → Prop
def liftX (K : PySem.W.Frag) (t : DX) (Wx : WX) : TS := fun _ σ H => ∃ W F A m QX, Good K W F A m σ H ∧ t m QX ∧
  ∀ F' A' m' σ' H' x v, Same F F' → A <+: A' → Good K W F' A' m' σ' H' → PySem.W.nsIn K mainGlobals x = some (some v) → QX x m' → Wx v none σ' H'
def liftSpX (K : PySem.W.Frag) (sp : FSpecX) : Sp := fun vs H _ E => ∃ W F A st args QX, Good K W F A ⟨[], st⟩ [] H ∧ RepVs K F A args vs ∧ sp args st QX ∧
  ∀ F' A' st' H' x v, Same F F' → A <+: A' → Good K W F' A' ⟨[], st'⟩ [] H' → PySem.W.nsIn K mainGlobals x = some (some v) → QX x st' → E v none H'
abbrev JXs (X : Cx) (Wx : WX) (e : List Stmt) (t : DX) : Prop := PSs X e (liftX X.K t Wx)
section
variable {X : Cx} {Wx : WX} {st : Stmt} {rest : List Stmt} {pos : Pos}

def FnX (P : Program) (w : World) (K : PySem.W.Frag) (mg : Str → Option Value) (base : Heap) (x : Str) (k : Nat) (sp : FSpecX) : Prop :=
  ∃ (f : Addr) (fd : FuncData) (ps : List Str), Fnn P w K mg base (L2.CX P w) k f fd ps (liftSpX K sp) ∧ mg x = some (.ref f) ∧ PySem.W.keepIn K (.ref f) = true ∧ Binds K fd ps []
end

def spXOf (n N : Nat) (b : DX) : FSpecX := fun args st QX => args.length = n ∧ b (startM N args st) fun x m => QX x (m.st.take st.length)
theorem mkX {P : Program} {w : World} {K : PySem.W.Frag} {mg : Str → Option Value} {base : Heap} {x y qual : Str} {params : Arguments} {body : List Stmt} {scope : Scope} {kws : List (Str × V)} {f : Addr} {fd : FuncData} {N ps : List Str} {k n m : Nat} {b : DX} (hns : BaseOk K mg base) (htr : P.given.tree = none)
    (F : FunD K y qual params body scope [] kws f fd) (hm : mg x = some (.ref f)) (S : FnScope N ps scope) (hn : ps.length = n) (hN : N.length = m)
    (hb : ∀ (kV doc pm : Value) (an : Option Addr) (cdv ct : Value) (us : List Value), us.length = ps.length → bindArgs (PySem.W.fnOf y qual params body scope .none kV doc pm an cdv ct) ⟨us, []⟩ = pure (ps.zip us))
    (hd : ∀ (X : Cx) (Wx : WX) (cdv : Value) (A : Around) (outer : List Env) (s : Shared) (H : Hp) (E : XK), X = cxOf (L2.CX P w) P w K mg base N qual scope f cdv A outer s H E → Takes X Wx → Amb k X → JXs X Wx body b) :
    FnX P w K mg base x (k + 1) (spXOf n m b) := by
  subst hn hN
  refine ⟨f, fd, ps, ?_, hm, F.kp, F.bindsN hb⟩
  obtain ⟨oc, od, dV, kV, doc, pm, an, cdv, ct, osl, rfl, lk, hcd, _, _⟩ := F.ex
  refine fnn_of hns htr lk hcd S (fun vs H Q E h => ?_) fun A outer s H vs Q E amb h => ?_
  · obtain ⟨W, F1, A1, st1, args, QX, G, r, q, c⟩ := h
    rw [← r.length]
    exact q.1
  · obtain ⟨W, F1, A1, st1, args, QX, G, r, q, c⟩ := h
    refine ⟨_, hd (cxOf (L2.CX P w) P w K mg base N qual scope f cdv A outer s H E) (fun cls d _ H => E cls d H) cdv A outer s H E rfl (takes_of rfl rfl rfl rfl) amb, ?_⟩
    have hl := r.length
    refine ⟨W, F1, A1, startM N.length args st1, _, ⟨G.ext, G.hid, G.dj, ?_, ?_, G.len, G.st, G.nd, G.tb⟩, q.2, ?_⟩
    · unfold startM L2.start
      simp [hl]
    · intro i v e
      unfold startM at e
      unfold L2.start
      rw [← hl]
      exact repVs_slots r _ i v e
    · intro F' A' m' σ' H' x v s' p' G' e q'
      have eA : A'.take st1.length = A1 := by rw [← G.len]; exact pre_take p'
      have G1 := G'.take st1.length
      rw [eA] at G1
      exact c F' A1 _ H' x v s' (pre_refl _) G1 e q'

section
variable {X : Cx} {i : Nat} {a : Addr} {rest : List Stmt} {pos : Pos}
abbrev CE (X : Cx) (i : Nat) (a : Addr) (e : Expr) (v : V) : Prop := PE X e fun σ H Q => σ[i]? = some (some (.ref a)) ∧ Q v H
end

end RT

set_option maxRecDepth 100000
set_option maxHeartbeats 4000000

namespace RT
open PySem PySem.Spec PyProof.Rows L2
section
variable {X : Cx} {a b : Expr} {ta tb : DE} {pos : Pos}
theorem Reps.rep {K : PySem.W.Frag} {F : Hp} {ds : List Dt} {vs : List V} (r : Reps K F ds vs) : ∀ n : Nat, Reps K F (List.replicate n ds).flatten (List.replicate n vs).flatten
  | 0 => Reps.nil
  | n + 1 => by
    rw [List.replicate_succ, List.replicate_succ, List.flatten_cons, List.flatten_cons]
    exact r.append (Reps.rep r n)
end
end RT

set_option maxRecDepth 100000
set_option maxHeartbeats 4000000

namespace RT
open PySem PySem.Spec PyProof.Rows L2
def hashIs (ks : List Int) : Int := reduceHash (Builtin.Tuple.tupleHashOf (ks.map hashInt))
def intsB : List Int → List Value → Bool
  | [], [] => true
  | i :: r, .int j _ :: us => decide (i = j) && intsB r us
  | _, _ => false
def keyB (K : PySem.W.Frag) (b : Addr) (ks : List Int) : Bool := match K.lookup b with
  | some ⟨.type c, _, .seq its _, _⟩ => decide (c = "tuple") && intsB ks its.toList
  | _ => false
def entB (K : PySem.W.Frag) : List (List Int × Int) → List DictEntry → Bool
  | [], [] => true
  | (ks, v) :: r, ⟨h, .ref b, .int i _⟩ :: es => (decide (h = hashIs ks) && (keyB K b ks && decide (i = v))) && entB K r es
  | _, _ => false
structure DctF (K : PySem.W.Frag) (a : Addr) (kvs : List (List Int × Int)) : Prop where
  sm : (a == sysModules) = false
  nd : (kvs.map (·.1)).Nodup
  es : ∃ es n, K.lookup a = some ⟨.type "dict", none, .dict es n, #[]⟩ ∧ entB K kvs es.toList = true

section
variable {X : Cx}
variable {x : Str} {p pos : Pos} {e : Expr} {te : DE} {kvs : List (List Int × Int)}
theorem js_augF {i : Nat} {x : Str} {e : Expr} {te : DE} {pos pos' : Pos} (hN : X.N.Nodup) (hi : X.N[i]? = some x) (hx : Loc X.env.scope x) (he : JE X e te) (hf : X.fn x = true ∨ X.env.scope.names.lookup x = some .local := by first | exact .inl rfl | exact .inr rfl | assumption) :
    JS X (.AugAssign (.Name x pos') .FloorDiv e pos) (dAug i (rInt CDiv fun a b => .int (a / b)) te) := by
  refine (ps_aug hN hi hx he (iop_fdiv (X := X)) hf).imp fun D σ H hh => ?_
  obtain ⟨W, F, A, m, E, G, h, c⟩ := hh
  unfold dAug at h
  split at h
  · rename_i y ey
    obtain ⟨u, eu, ru⟩ := G.sl i _ ey
    refine ⟨u, eu, W, F, A, m, _, G, h, fun F1 A1 v m1 H1 s1 p1 G1 q1 w r1 => ?_⟩
    obtain ⟨z, rfl, q⟩ := onD_elim q1
    obtain ⟨a, b, rfl, rfl, hc, q⟩ := rInt_elim q
    have e1 : u = .int a := repB_int (H := H1) ru
    have e2 : w = .int b := repB_int (H := H1) r1
    rw [e1, e2]
    exact ⟨a, b, rfl, rfl, hc, c.nx F1 A1 _ _ H1 s1 p1 (G1.store rv_int) q⟩
  · exact h.elim
end
end RT

set_option maxRecDepth 100000
set_option maxHeartbeats 4000000

namespace RT
open PySem PySem.Spec PyProof.Rows L2
section
variable {X : Cx}
theorem boot_all : bootBuiltins "all" = some (.builtin "all") := by decide +kernel
def blsD : List Dt → Option (List Bool)
  | [] => some []
  | .bl b :: r => (blsD r).map (b :: ·)
  | _ :: _ => none
theorem blsD_ok {K : PySem.W.Frag} {F : Hp} : ∀ {ds : List Dt} {bs : List Bool} {vs : List V}, blsD ds = some bs → Reps K F ds vs → vs = bs.map V.bl
  | [], bs, vs, e, r => by
    cases e
    simp only [Reps] at r
    exact r
  | d :: ds, bs, vs, e, r => by
    cases d with
    | bl b =>
      obtain ⟨js, e1, e2⟩ := Option.map_eq_some_iff.mp (show (blsD ds).map (b :: ·) = some bs from e)
      subst e2
      simp only [Reps] at r
      obtain ⟨v, rr, rfl, h1, h2⟩ := r
      simp only [Rep] at h1
      rw [h1, blsD_ok e1 h2, List.map_cons]
    | _ => cases e
@[irreducible] def bAll : DRB := fun xs P => match xs with
  | [.lst ys] => match blsD ys with
    | some bs => P (.bl (bs.all id))
    | none => False
  | _ => False
theorem b_all (hc : X.calm = true) : BiD X (.builtin "all") bAll := ⟨_, cr_all hc, fun W F A m σ H xs us P Q G rs q c => by
  unfold bAll at q
  split at q
  · obtain ⟨u, rfl, ru⟩ := rb1 rs
    obtain ⟨l, vs, rfl, hl, rl⟩ := ru
    split at q
    · rename_i bs e
      have := blsD_ok e rl
      subst this
      exact ⟨l, bs, rfl, .inl hl, c F H _ _ (Same.refl _) G rep_bl q⟩
    · exact q.elim
  · exact q.elim⟩
def rRepR : R2 := fun x y H Q => ∃ l k xs, x = .ref l ∧ y = .int k ∧ Rd H l (.lst xs) ∧ -(2 ^ 63) ≤ k ∧ k < 2 ^ 63 ∧ xs.length * k.toNat ≤ sizeLine ∧
  ∀ p, H p = none → Q (.ref p) (upd H p (.lst (List.replicate k.toNat xs).flatten))
theorem op_repR : OpR X (binaryOp .Mult) rRepR := by
  intro pins s σ H x y v u Q I rx ry h
  obtain ⟨l, k, xs, rfl, rfl, hH, h1, h2, hz, q⟩ := h
  cases rx
  obtain ⟨t, rfl⟩ := ry
  obtain ⟨z, its, n, r, e⟩ := hH.ok I.hok
  have hl := r.length
  have hlen : its.toArray.size * k.toNat ≤ sizeLine := by rw [List.size_toArray, ← hl]; exact hz
  have hcap : ¬ its.toArray.size * k.toNat > (2 ^ 63 - 1) / 8 := by
    have : (sizeLine : Nat) ≤ (2 ^ 63 - 1) / 8 := by decide
    omega
  have hfit : ¬ (!Builtin.List.listFitsIndex k) = true := by
    rw [fitsIndex_both h1 h2]
    exact Bool.false_ne_true
  have hlong : ¬ Builtin.List.listTooLong (its.toArray.size * k.toNat) = true := by
    rw [notLongL hlen]
    exact Bool.false_ne_true
  have hnew : List.foldl (fun x1 x2 => x1 ++ x2) #[] (List.replicate (if its.toArray.isEmpty = true then 0 else k.toNat) its.toArray) = (List.replicate k.toNat its).flatten.toArray := by
    have f0 : ∀ m : Nat, List.foldl (fun x1 x2 => x1 ++ x2) #[] (List.replicate m its.toArray) = (List.replicate m its).flatten.toArray := fun m => by
      have := foldl_rep its m []
      rw [List.nil_append] at this
      exact this
    rw [f0]
    cases its with
    | nil => simp
    | cons a r' => rw [if_neg (by simp)]
  refine wpAny_binaryOp_repeat_ref (T := "list") (U := "int") (by decide) ⟨_, e, rfl⟩ (fun s' => typeIs_int s' k t) noFill_list_mul F.fills_int_mul F.slot_int_rmul repeat_list F.slot_int_index.lookup
    (call_meets F.slot_int_rmul (typeIs_int s k t) F.entry_int_rmul (F.args_int_rmul_2 _ _) (int___rmul___int_list k t l its.toArray n)
      ⟨e, rfl, ⟨_, e, rfl⟩, call_meets F.slot_list_mul ⟨_, e, rfl⟩ F.entry_list_mul (F.args_list_mul_2 _ _) (AutoListH.list___mul___list_int_3 l its.toArray n k t hfit hcap hlong) ⟨e, ?_⟩⟩)
  rw [hnew]
  exact ⟨.ref _, _, I.lnew (t' := s.toks) (r.rep k.toNat) (by rw [PyProof.Rows.lm_len_rep_flat, Nat.mul_comm]; exact hz), rfl, q _ I.fresh⟩
def rRepD : DR2 := fun x y P => match x, y with
  | .lst xs, .int k => -(2 ^ 63) ≤ k ∧ k < 2 ^ 63 ∧ xs.length * k.toNat ≤ sizeLine ∧ P (.lst (List.replicate k.toNat xs).flatten)
  | _, _ => False
theorem o_repD : OpD X (binaryOp .Mult) rRepD := ⟨_, op_repR, fun W F A m σ H x y u v P Q G rx ry q c => by
  unfold rRepD at q
  split at q
  · rename_i xs k
    obtain ⟨l, vs, rfl, hl, rl⟩ := rx
    refine ⟨l, k, vs, rfl, repB_int ry, hl, q.1, q.2.1, by rw [← rl.length]; exact q.2.2.1, fun p np => ?_⟩
    obtain ⟨F2, s2, G2, r2⟩ := lst_laid G np (Reps.rep rl k.toNat)
    exact c F2 _ _ _ s2 G2 r2 q.2.2.2
  · exact q.elim⟩
end
end RT

set_option maxRecDepth 100000
set_option maxHeartbeats 4000000
namespace PG
open PySem PySem.Spec PyProof.Rows L2 RT

def w_common_divisor : DS := (dSeq (dSet 2 (dBi bAbs (dCons (dVar 0) dNil)))
  (dSeq (dSet 3 (dBi bAbs (dCons (dVar 1) dNil)))
  (dSeq (dWhile (dTest (dOp rGt (dVar 3) (dC (.int 0))))
  (dPar 2 3 (dCons (dVar 3) (dCons (dOp rMod (dVar 2) (dVar 3)) dNil))))
  (dRet (dVar 2)))))
@[irreducible] def sp_common_divisor : FSpec := spOf false 2 4 w_common_divisor

def w_fraction : DS := (dSeq (dSet 2 (dCall PG.sp_common_divisor [] (dCons (dVar 0) (dCons (dVar 1) dNil))))
  (dSeq (dIfS (dTest (dOp rLt (dVar 1) (dC (.int 0))))
  (dSet 2 (rU rNeg (dVar 2)))
  dNext)
  (dRet (dTup (dCons (dOp rDiv (dVar 0) (dVar 2)) (dCons (dOp rDiv (dVar 1) (dVar 2)) dNil))))))
@[irreducible] def sp_fraction : FSpec := spOf false 2 3 w_fraction

def w_add : DS := (dRet (dCall PG.sp_fraction [] (dCons (dOp rAddA (dOp rMul (dOp rIx (dVar 0) (dC (.int 0))) (dOp rIx (dVar 1) (dC (.int 1)))) (dOp rMul (dOp rIx (dVar 1) (dC (.int 0))) (dOp rIx (dVar 0) (dC (.int 1))))) (dCons (dOp rMul (dOp rIx (dVar 0) (dC (.int 1))) (dOp rIx (dVar 1) (dC (.int 1)))) dNil))))
@[irreducible] def sp_add : FSpec := spOf false 2 2 w_add

def w_negative : DS := (dRet (dTup (dCons (rU rNeg (dOp rIx (dVar 0) (dC (.int 0)))) (dCons (dOp rIx (dVar 0) (dC (.int 1))) dNil))))
@[irreducible] def sp_negative : FSpec := spOf false 1 1 w_negative

def w_subtract : DS := (dRet (dCall PG.sp_add [] (dCons (dVar 0) (dCons (dCall PG.sp_negative [] (dCons (dVar 1) dNil)) dNil))))
@[irreducible] def sp_subtract : FSpec := spOf false 2 2 w_subtract

def w_multiply : DS := (dRet (dCall PG.sp_fraction [] (dCons (dOp rMul (dOp rIx (dVar 0) (dC (.int 0))) (dOp rIx (dVar 1) (dC (.int 0)))) (dCons (dOp rMul (dOp rIx (dVar 0) (dC (.int 1))) (dOp rIx (dVar 1) (dC (.int 1)))) dNil))))
@[irreducible] def sp_multiply : FSpec := spOf false 2 2 w_multiply

def w_divide : DS := (dRet (dCall PG.sp_fraction [] (dCons (dOp rMul (dOp rIx (dVar 0) (dC (.int 0))) (dOp rIx (dVar 1) (dC (.int 1)))) (dCons (dOp rMul (dOp rIx (dVar 0) (dC (.int 1))) (dOp rIx (dVar 1) (dC (.int 0)))) dNil))))
@[irreducible] def sp_divide : FSpec := spOf false 2 2 w_divide

def w_sign : DS := (dSeq (dIfS (dTest (dOp rGt (dOp rIx (dVar 0) (dC (.int 0))) (dC (.int 0))))
  (dRet (dC (.int 1)))
  dNext)
  (dSeq (dIfS (dTest (dOp rLt (dOp rIx (dVar 0) (dC (.int 0))) (dC (.int 0))))
  (dRet (rU rNeg (dC (.int 1))))
  dNext)
  (dRet (dC (.int 0)))))
@[irreducible] def sp_sign : FSpec := spOf false 1 1 w_sign

def w_compare : DS := (dRet (dCall PG.sp_sign [] (dCons (dCall PG.sp_subtract [] (dCons (dVar 0) (dCons (dVar 1) dNil))) dNil)))
@[irreducible] def sp_compare : FSpec := spOf false 2 2 w_compare

def w_is_less : DS := (dRet (dOp rLt (dCall PG.sp_compare [] (dCons (dVar 0) (dCons (dVar 1) dNil))) (dC (.int 0))))
@[irreducible] def sp_is_less : FSpec := spOf false 2 2 w_is_less

def w__law_cell : DS := (dSeq (dIfS (dTest (dOp rLt (dVar 1) (dBi bLen (dCons (dVar 0) dNil))))
  (dRet (dOp rIx (dVar 0) (dVar 1)))
  dNext)
  (dRet (dC (.int 0))))
@[irreducible] def sp__law_cell : FSpec := spOf false 2 2 w__law_cell

def w__law_less : DS := (dRet (dOp rLt (dOp rMul (dOp rIx (dVar 0) (dC (.int 0))) (dOp rIx (dVar 1) (dC (.int 1)))) (dOp rMul (dOp rIx (dVar 1) (dC (.int 0))) (dOp rIx (dVar 0) (dC (.int 1))))))
@[irreducible] def sp__law_less : FSpec := spOf false 2 2 w__law_less

def v_ZERO : Dt := .tup [.int 0, .int 1]

def w_least_of : DS := (dSeq (dSet 1 (dC .non))
  (dSeq (dFor (dAny (dVar 0)) (.nm 2)
  (dIfS (dAnd (dTest (dNotN (dVar 2))) (dOr (dTest (dIsN (dVar 1))) (dTru (dCall PG.sp_is_less [] (dCons (dVar 2) (dCons (dVar 1) dNil))))))
  (dSet 1 (dVar 2))
  dNext))
  (dRet (dVar 1))))
@[irreducible] def sp_least_of : FSpec := spOf false 1 3 w_least_of

def v_ONE : Dt := .tup [.int 1, .int 1]

def v_IDENTITY : Dt := .tup [.tup [.int 1, .int 1], .tup [.int 0, .int 1], .tup [.int 0, .int 1], .tup [.int 1, .int 1], .tup [.int 0, .int 1], .tup [.int 0, .int 1]]

def w_element_map : DS := (dSeq (dIfS (dTest (dOp rEq (dOp rIx (dVar 0) (dC (.int 0))) (dC (.str ("gap" : Str)))))
  (dRet (dTup (dCons (dC PG.v_ONE) (dCons (dOp rIx (dVar 0) (dC (.int 1))) (dCons (dC PG.v_ZERO) (dCons (dC PG.v_ONE) (dCons (dC PG.v_ZERO) (dCons (dC PG.v_ZERO) dNil))))))))
  dNext)
  (dSeq (dIfS (dTest (dOp rEq (dOp rIx (dVar 0) (dC (.int 0))) (dC (.str ("lens" : Str)))))
  (dRet (dTup (dCons (dC PG.v_ONE) (dCons (dC PG.v_ZERO) (dCons (dCall PG.sp_negative [] (dCons (dOp rIx (dVar 0) (dC (.int 1))) dNil)) (dCons (dC PG.v_ONE) (dCons (dC PG.v_ZERO) (dCons (dCall PG.sp_multiply [] (dCons (dOp rIx (dVar 0) (dC (.int 1))) (dCons (dOp rIx (dVar 0) (dC (.int 2))) dNil))) dNil))))))))
  dNext)
  (dSeq (dIfS (dTest (dOp rEq (dOp rIx (dVar 0) (dC (.int 0))) (dC (.str ("prism" : Str)))))
  (dRet (dTup (dCons (dC PG.v_ONE) (dCons (dC PG.v_ZERO) (dCons (dC PG.v_ZERO) (dCons (dC PG.v_ONE) (dCons (dC PG.v_ZERO) (dCons (dOp rIx (dVar 0) (dC (.int 1))) dNil))))))))
  dNext)
  (dSeq (dIfS (dTest (dOp rEq (dOp rIx (dVar 0) (dC (.int 0))) (dC (.str ("afocal" : Str)))))
  (dRet (dTup (dCons (dOp rIx (dVar 0) (dC (.int 1))) (dCons (dC PG.v_ZERO) (dCons (dC PG.v_ZERO) (dCons (dCall PG.sp_divide [] (dCons (dC PG.v_ONE) (dCons (dOp rIx (dVar 0) (dC (.int 1))) dNil))) (dCons (dC PG.v_ZERO) (dCons (dC PG.v_ZERO) dNil))))))))
  dNext)
  (dRet (dC PG.v_IDENTITY))))))
@[irreducible] def sp_element_map : FSpec := spOf false 1 1 w_element_map

def w_weighted : DS := (dRet (dCall PG.sp_add [] (dCons (dCall PG.sp_multiply [] (dCons (dVar 0) (dCons (dVar 1) dNil))) (dCons (dCall PG.sp_multiply [] (dCons (dVar 2) (dCons (dVar 3) dNil))) dNil))))
@[irreducible] def sp_weighted : FSpec := spOf false 4 4 w_weighted

def w_compose_maps : DS := (dSeq (dAsg (dVar 0) (.tp [2, 3, 4, 5, 6, 7]))
  (dSeq (dAsg (dVar 1) (.tp [8, 9, 10, 11, 12, 13]))
  (dSeq (dSet 14 (dTup (dCons (dCall PG.sp_weighted [] (dCons (dVar 8) (dCons (dVar 2) (dCons (dVar 9) (dCons (dVar 4) dNil))))) (dCons (dCall PG.sp_weighted [] (dCons (dVar 8) (dCons (dVar 3) (dCons (dVar 9) (dCons (dVar 5) dNil))))) dNil))))
  (dSeq (dSet 15 (dTup (dCons (dCall PG.sp_weighted [] (dCons (dVar 10) (dCons (dVar 2) (dCons (dVar 11) (dCons (dVar 4) dNil))))) (dCons (dCall PG.sp_weighted [] (dCons (dVar 10) (dCons (dVar 3) (dCons (dVar 11) (dCons (dVar 5) dNil))))) dNil))))
  (dSeq (dSet 16 (dTup (dCons (dCall PG.sp_add [] (dCons (dCall PG.sp_weighted [] (dCons (dVar 8) (dCons (dVar 6) (dCons (dVar 9) (dCons (dVar 7) dNil))))) (dCons (dVar 12) dNil))) (dCons (dCall PG.sp_add [] (dCons (dCall PG.sp_weighted [] (dCons (dVar 10) (dCons (dVar 6) (dCons (dVar 11) (dCons (dVar 7) dNil))))) (dCons (dVar 13) dNil))) dNil))))
  (dRet (dOp rAddA (dOp rAddA (dVar 14) (dVar 15)) (dVar 16))))))))
@[irreducible] def sp_compose_maps : FSpec := spOf false 2 17 w_compose_maps

def w_invert_map : DS := (dSeq (dAsg (dVar 0) (.tp [1, 2, 3, 4, 5, 6]))
  (dSeq (dSet 7 (dTup (dCons (dCall PG.sp_subtract [] (dCons (dCall PG.sp_multiply [] (dCons (dVar 2) (dCons (dVar 6) dNil))) (dCons (dCall PG.sp_multiply [] (dCons (dVar 4) (dCons (dVar 5) dNil))) dNil))) (dCons (dCall PG.sp_subtract [] (dCons (dCall PG.sp_multiply [] (dCons (dVar 3) (dCons (dVar 5) dNil))) (dCons (dCall PG.sp_multiply [] (dCons (dVar 1) (dCons (dVar 6) dNil))) dNil))) dNil))))
  (dRet (dOp rAddA (dTup (dCons (dVar 4) (dCons (dCall PG.sp_negative [] (dCons (dVar 2) dNil)) (dCons (dCall PG.sp_negative [] (dCons (dVar 3) dNil)) (dCons (dVar 1) dNil))))) (dVar 7)))))
@[irreducible] def sp_invert_map : FSpec := spOf false 1 8 w_invert_map

def w_ray_transfer : DS := (dSeq (dSet 1 (dC PG.v_IDENTITY))
  (dSeq (dFor (dAny (dVar 0)) (.nm 2)
  (dSet 1 (dCall PG.sp_compose_maps [] (dCons (dVar 1) (dCons (dCall PG.sp_element_map [] (dCons (dVar 2) dNil)) dNil)))))
  (dRet (dVar 1))))
@[irreducible] def sp_ray_transfer : FSpec := spOf false 1 3 w_ray_transfer

def w__law_row : DS := (dSeq (dSet 3 (dLstO dNil))
  (dSeq (dIfS (dTest (dOp rLt (dVar 0) (dC (.int 0))))
  (dSet 0 (dOp rSub (dC (.int 1)) (dOp rMul (dC (.int 2)) (dVar 0))))
  dNext)
  (dSeq (dIfS (dTest (dOp rGe (dVar 0) (dOp rPow (dC (.int 10)) (dC (.int 18)))))
  (dSeq (dFor (dRange1 (dCons (dC (.int 60)) dNil)) (.nm 4)
  (dIfS (dAnd (dTest (dOp rGt (dVar 0) (dC (.int 0)))) (dTest (dOp rLt (dBi bLen (dCons (dVar 3) dNil)) (dVar 2))))
  (dSeq (dDo (dMeth mAppend (dVar 3) (dCons (dOp rMod (dBi bInt (dCons (dVar 0) dNil)) (dC (.int 1000))) dNil)))
  (dSet 0 (dOp rDiv (dVar 0) (dC (.int 1000)))))
  dNext))
  (dRet (dVar 3)))
  dNext)
  (dSeq (dSet 5 (dOp rMod (dBi bInt (dCons (dOp rAddA (dOp rAddA (dOp rMul (dVar 0) (dC (.int 48271))) (dOp rMul (dVar 1) (dC (.int 69621)))) (dC (.int 11))) dNil)) (dC (.int 2147483647))))
  (dSeq (dFor (dRange1 (dCons (dVar 2) dNil)) (.nm 4)
  (dSeq (dSet 5 (dOp rMod (dBi bInt (dCons (dOp rAddA (dOp rAddA (dOp rMul (dVar 5) (dC (.int 16807))) (dOp rMul (dC (.int 7)) (dVar 4))) (dC (.int 1))) dNil)) (dC (.int 2147483647))))
  (dDo (dMeth mAppend (dVar 3) (dCons (dOp rMod (dBi bInt (dCons (dOp rDiv (dVar 5) (dC (.int 997))) dNil)) (dC (.int 1000))) dNil)))))
  (dRet (dVar 3)))))))
@[irreducible] def sp__law_row : FSpec := spOf false 3 6 w__law_row

def w__law_box : DS := (dSeq (dSet 3 (dLst dNil))
  (dSeq (dFor (dRange2 (dCons (dVar 1) (dCons (dVar 2) dNil))) (.nm 4)
  (dSet 3 (dOp rAddA (dVar 3) (dCall PG.sp__law_row [] (dCons (dCall PG.sp__law_cell [] (dCons (dVar 0) (dCons (dVar 4) dNil))) (dCons (dVar 4) (dCons (dC (.int 12)) dNil)))))))
  (dRet (dLstO (dCons (dVar 3) (dCons (dC (.int 0)) dNil))))))
@[irreducible] def sp__law_box : FSpec := spOf true 3 5 w__law_box

def w__law_draw_2 : DS := (dSeq (dSet 2 (dOp rIx (dVar 0) (dC (.int 1))))
  (dSeq (dSetIx (dOp rAddA (dVar 2) (dC (.int 1))) (dVar 0) (dC (.int 1)))
  (dSeq (dIfS (dTest (dOp rLt (dVar 2) (dBi bLen (dCons (dOp rIx (dVar 0) (dC (.int 0))) dNil))))
  (dRet (dOp rMod (dBi bInt (dCons (dOp rIx (dOp rIx (dVar 0) (dC (.int 0))) (dVar 2)) dNil)) (dVar 1)))
  dNext)
  (dRet (dOp rMod (dBi bInt (dCons (dOp rAddA (dOp rMul (dVar 2) (dC (.int 7))) (dC (.int 3))) dNil)) (dVar 1))))))
@[irreducible] def sp__law_draw_2 : FSpec := spOf false 2 3 w__law_draw_2

def w__law_same : DS := (dRet (dOp rEqT (dBi bRepr (dCons (dVar 0) dNil)) (dBi bRepr (dCons (dVar 1) dNil))))
@[irreducible] def sp__law_same : FSpec := spOf false 2 2 w__law_same

def w__law_frac : DS := (dSeq (dSet 2 (dBi bAbs (dCons (dVar 0) dNil)))
  (dSeq (dSet 3 (dBi bAbs (dCons (dVar 1) dNil)))
  (dSeq (dWhile (dTest (dOp rGt (dVar 3) (dC (.int 0))))
  (dPar 2 3 (dCons (dVar 3) (dCons (dOp rMod (dBi bInt (dCons (dVar 2) dNil)) (dBi bInt (dCons (dVar 3) dNil))) dNil))))
  (dSeq (dIfS (dTest (dOp rLt (dVar 1) (dC (.int 0))))
  (dSet 2 (rU rNeg (dVar 2)))
  dNext)
  (dRet (dTup (dCons (dOp rDiv (dVar 0) (dVar 2)) (dCons (dOp rDiv (dVar 1) (dVar 2)) dNil))))))))
@[irreducible] def sp__law_frac : FSpec := spOf false 2 4 w__law_frac

def w__law_add_2 : DS := (dRet (dCall PG.sp__law_frac [] (dCons (dOp rAddA (dOp rMul (dOp rIx (dVar 0) (dC (.int 0))) (dOp rIx (dVar 1) (dC (.int 1)))) (dOp rMul (dOp rIx (dVar 1) (dC (.int 0))) (dOp rIx (dVar 0) (dC (.int 1))))) (dCons (dOp rMul (dOp rIx (dVar 0) (dC (.int 1))) (dOp rIx (dVar 1) (dC (.int 1)))) dNil))))
@[irreducible] def sp__law_add_2 : FSpec := spOf false 2 2 w__law_add_2

def w__law_neg : DS := (dRet (dTup (dCons (rU rNeg (dOp rIx (dVar 0) (dC (.int 0)))) (dCons (dOp rIx (dVar 0) (dC (.int 1))) dNil))))
@[irreducible] def sp__law_neg : FSpec := spOf false 1 1 w__law_neg

def w__law_sub_2 : DS := (dRet (dCall PG.sp__law_add_2 [] (dCons (dVar 0) (dCons (dCall PG.sp__law_neg [] (dCons (dVar 1) dNil)) dNil))))
@[irreducible] def sp__law_sub_2 : FSpec := spOf false 2 2 w__law_sub_2

def w__law_mul_2 : DS := (dRet (dCall PG.sp__law_frac [] (dCons (dOp rMul (dOp rIx (dVar 0) (dC (.int 0))) (dOp rIx (dVar 1) (dC (.int 0)))) (dCons (dOp rMul (dOp rIx (dVar 0) (dC (.int 1))) (dOp rIx (dVar 1) (dC (.int 1)))) dNil))))
@[irreducible] def sp__law_mul_2 : FSpec := spOf false 2 2 w__law_mul_2

def w__law_div : DS := (dRet (dCall PG.sp__law_frac [] (dCons (dOp rMul (dOp rIx (dVar 0) (dC (.int 0))) (dOp rIx (dVar 1) (dC (.int 1)))) (dCons (dOp rMul (dOp rIx (dVar 0) (dC (.int 1))) (dOp rIx (dVar 1) (dC (.int 0)))) dNil))))
@[irreducible] def sp__law_div : FSpec := spOf false 2 2 w__law_div

def w__law_fraction : DS := (dRet (dCall PG.sp__law_frac [] (dCons (dOp rSub (dCall PG.sp__law_draw_2 [] (dCons (dVar 0) (dCons (dC (.int 9)) dNil))) (dC (.int 4))) (dCons (dOp rIx (dLst (dCons (dC (.int 1)) (dCons (dC (.int 1)) (dCons (dC (.int 2)) (dCons (dC (.int 3)) dNil))))) (dCall PG.sp__law_draw_2 [] (dCons (dVar 0) (dCons (dC (.int 4)) dNil)))) dNil))))
@[irreducible] def sp__law_fraction : FSpec := spOf false 1 1 w__law_fraction

def w__law_stop_2 : DS := (dSeq (dSet 1 (dCall PG.sp__law_fraction [] (dCons (dVar 0) dNil)))
  (dSeq (dSet 2 (dCall PG.sp__law_add_2 [] (dCons (dVar 1) (dCons (dCall PG.sp__law_frac [] (dCons (dCall PG.sp__law_draw_2 [] (dCons (dVar 0) (dCons (dC (.int 9)) dNil))) (dCons (dC (.int 2)) dNil))) dNil))))
  (dSeq (dSet 3 (dCall PG.sp__law_draw_2 [] (dCons (dVar 0) (dCons (dC (.int 8)) dNil))))
  (dSeq (dIfS (dTest (dOp rEq (dVar 3) (dC (.int 0))))
  (dRet (dTup (dCons (dC (.str ("stop" : Str))) (dCons (dC .non) (dCons (dVar 2) dNil)))))
  dNext)
  (dSeq (dIfS (dTest (dOp rEq (dVar 3) (dC (.int 1))))
  (dRet (dTup (dCons (dC (.str ("stop" : Str))) (dCons (dVar 1) (dCons (dC .non) dNil)))))
  dNext)
  (dRet (dTup (dCons (dC (.str ("stop" : Str))) (dCons (dVar 1) (dCons (dVar 2) dNil))))))))))
@[irreducible] def sp__law_stop_2 : FSpec := spOf false 1 4 w__law_stop_2

def w__law_go_2 : DS := (dSeq (dAsg (dVar 1) (.tp [2, 3]))
  (dSeq (dIfS (dTest (dOp rEq (dOp rIx (dVar 0) (dC (.int 0))) (dC (.str ("gap" : Str)))))
  (dRet (dTup (dCons (dCall PG.sp__law_add_2 [] (dCons (dVar 2) (dCons (dCall PG.sp__law_mul_2 [] (dCons (dOp rIx (dVar 0) (dC (.int 1))) (dCons (dVar 3) dNil))) dNil))) (dCons (dVar 3) dNil))))
  dNext)
  (dSeq (dIfS (dTest (dOp rEq (dOp rIx (dVar 0) (dC (.int 0))) (dC (.str ("lens" : Str)))))
  (dRet (dTup (dCons (dVar 2) (dCons (dCall PG.sp__law_sub_2 [] (dCons (dVar 3) (dCons (dCall PG.sp__law_mul_2 [] (dCons (dOp rIx (dVar 0) (dC (.int 1))) (dCons (dCall PG.sp__law_sub_2 [] (dCons (dVar 2) (dCons (dOp rIx (dVar 0) (dC (.int 2))) dNil))) dNil))) dNil))) dNil))))
  dNext)
  (dSeq (dIfS (dTest (dOp rEq (dOp rIx (dVar 0) (dC (.int 0))) (dC (.str ("prism" : Str)))))
  (dRet (dTup (dCons (dVar 2) (dCons (dCall PG.sp__law_add_2 [] (dCons (dVar 3) (dCons (dOp rIx (dVar 0) (dC (.int 1))) dNil))) dNil))))
  dNext)
  (dSeq (dIfS (dTest (dOp rEq (dOp rIx (dVar 0) (dC (.int 0))) (dC (.str ("afocal" : Str)))))
  (dRet (dTup (dCons (dCall PG.sp__law_mul_2 [] (dCons (dOp rIx (dVar 0) (dC (.int 1))) (dCons (dVar 2) dNil))) (dCons (dCall PG.sp__law_div [] (dCons (dVar 3) (dCons (dOp rIx (dVar 0) (dC (.int 1))) dNil))) dNil))))
  dNext)
  (dRet (dVar 1)))))))
@[irreducible] def sp__law_go_2 : FSpec := spOf false 2 4 w__law_go_2

def w__law_out : DS := (dSeq (dFor (dAny (dVar 0)) (.nm 2)
  (dSet 1 (dCall PG.sp__law_go_2 [] (dCons (dVar 2) (dCons (dVar 1) dNil)))))
  (dRet (dVar 1)))
@[irreducible] def sp__law_out : FSpec := spOf false 2 3 w__law_out

def w__law_map : DS := (dSeq (dSet 1 (dCall PG.sp__law_out [] (dCons (dVar 0) (dCons (dTup (dCons (dTup (dCons (dC (.int 0)) (dCons (dC (.int 1)) dNil))) (dCons (dTup (dCons (dC (.int 0)) (dCons (dC (.int 1)) dNil))) dNil))) dNil))))
  (dSeq (dSet 2 (dCall PG.sp__law_out [] (dCons (dVar 0) (dCons (dTup (dCons (dTup (dCons (dC (.int 1)) (dCons (dC (.int 1)) dNil))) (dCons (dTup (dCons (dC (.int 0)) (dCons (dC (.int 1)) dNil))) dNil))) dNil))))
  (dSeq (dSet 3 (dCall PG.sp__law_out [] (dCons (dVar 0) (dCons (dTup (dCons (dTup (dCons (dC (.int 0)) (dCons (dC (.int 1)) dNil))) (dCons (dTup (dCons (dC (.int 1)) (dCons (dC (.int 1)) dNil))) dNil))) dNil))))
  (dSeq (dSet 4 (dTup (dCons (dCall PG.sp__law_sub_2 [] (dCons (dOp rIx (dVar 2) (dC (.int 0))) (dCons (dOp rIx (dVar 1) (dC (.int 0))) dNil))) (dCons (dCall PG.sp__law_sub_2 [] (dCons (dOp rIx (dVar 3) (dC (.int 0))) (dCons (dOp rIx (dVar 1) (dC (.int 0))) dNil))) dNil))))
  (dSeq (dSet 5 (dTup (dCons (dCall PG.sp__law_sub_2 [] (dCons (dOp rIx (dVar 2) (dC (.int 1))) (dCons (dOp rIx (dVar 1) (dC (.int 1))) dNil))) (dCons (dCall PG.sp__law_sub_2 [] (dCons (dOp rIx (dVar 3) (dC (.int 1))) (dCons (dOp rIx (dVar 1) (dC (.int 1))) dNil))) dNil))))
  (dRet (dOp rAddA (dOp rAddA (dVar 4) (dVar 5)) (dVar 1))))))))
@[irreducible] def sp__law_map : FSpec := spOf false 1 6 w__law_map

def w__law_plane : DS := (dSeq (dSet 3 (dOp rMul (dOp rMul (dOp rIx (dVar 0) (dC (.int 1))) (dOp rIx (dVar 1) (dC (.int 1)))) (dOp rIx (dVar 2) (dC (.int 1)))))
  (dSeq (dSet 5 (dLc false (dAny (dLst (dCons (dVar 0) (dCons (dVar 1) (dCons (dVar 2) dNil))))) (.nm 4) dYes (dOp rMul (dOp rIx (dVar 4) (dC (.int 0))) (dOp rDiv (dVar 3) (dOp rIx (dVar 4) (dC (.int 1))))) [4]))
  (dSeq (dSet 6 (dC (.int 0)))
  (dSeq (dFor (dAny (dVar 5)) (.nm 4)
  (dSeq (dSet 7 (dBi bAbs (dCons (dVar 4) dNil)))
  (dWhile (dTest (dOp rGt (dVar 7) (dC (.int 0))))
  (dPar 6 7 (dCons (dVar 7) (dCons (dOp rMod (dBi bInt (dCons (dVar 6) dNil)) (dBi bInt (dCons (dVar 7) dNil))) dNil))))))
  (dRet (dTup (dCons (dOp rDiv (dOp rIx (dVar 5) (dC (.int 0))) (dVar 6)) (dCons (dOp rDiv (dOp rIx (dVar 5) (dC (.int 1))) (dVar 6)) (dCons (dOp rDiv (dOp rIx (dVar 5) (dC (.int 2))) (dVar 6)) dNil)))))))))
@[irreducible] def sp__law_plane : FSpec := spOf false 3 8 w__law_plane

def w_make_half_plane : DS := (dSeq (dIfS (dAnd (dTest (dOp rEq (dVar 0) (dC PG.v_ZERO))) (dTest (dOp rEq (dVar 1) (dC PG.v_ZERO))))
  dNever
  dNext)
  (dSeq (dSet 3 (dOp rMul (dOp rMul (dOp rIx (dVar 0) (dC (.int 1))) (dOp rIx (dVar 1) (dC (.int 1)))) (dOp rIx (dVar 2) (dC (.int 1)))))
  (dSeq (dSet 4 (dLc false (dAny (dTup (dCons (dVar 0) (dCons (dVar 1) (dCons (dVar 2) dNil))))) (.nm 6) dYes (dOp rMul (dOp rIx (dVar 6) (dC (.int 0))) (dOp rDiv (dVar 3) (dOp rIx (dVar 6) (dC (.int 1))))) [6]))
  (dSeq (dSet 5 (dCall PG.sp_common_divisor [] (dCons (dCall PG.sp_common_divisor [] (dCons (dOp rIx (dVar 4) (dC (.int 0))) (dCons (dOp rIx (dVar 4) (dC (.int 1))) dNil))) (dCons (dOp rIx (dVar 4) (dC (.int 2))) dNil))))
  (dRet (dTup (dCons (dOp rDiv (dOp rIx (dVar 4) (dC (.int 0))) (dVar 5)) (dCons (dOp rDiv (dOp rIx (dVar 4) (dC (.int 1))) (dVar 5)) (dCons (dOp rDiv (dOp rIx (dVar 4) (dC (.int 2))) (dVar 5)) dNil)))))))))
@[irreducible] def sp_make_half_plane : FSpec := spOf false 3 7 w_make_half_plane

def w_edges_of : DS := (dSeq (dAsg (dVar 2) (.tp [3, 4, 5, 6, 7, 8]))
  (dSeq (dSet 9 (dLstO dNil))
  (dSeq (dIfS (dTest (dNotN (dOp rIx (dVar 1) (dC (.int 1)))))
  (dDo (dMeth mAppend (dVar 9) (dCons (dTup (dCons (dTup (dCons (dVar 0) (dCons (dC (.str ("lower" : Str))) dNil))) (dCons (dCall PG.sp_make_half_plane [] (dCons (dCall PG.sp_negative [] (dCons (dVar 3) dNil)) (dCons (dCall PG.sp_negative [] (dCons (dVar 4) dNil)) (dCons (dCall PG.sp_subtract [] (dCons (dVar 7) (dCons (dOp rIx (dVar 1) (dC (.int 1))) dNil))) dNil)))) dNil))) dNil)))
  dNext)
  (dSeq (dIfS (dTest (dNotN (dOp rIx (dVar 1) (dC (.int 2)))))
  (dDo (dMeth mAppend (dVar 9) (dCons (dTup (dCons (dTup (dCons (dVar 0) (dCons (dC (.str ("upper" : Str))) dNil))) (dCons (dCall PG.sp_make_half_plane [] (dCons (dVar 3) (dCons (dVar 4) (dCons (dCall PG.sp_subtract [] (dCons (dOp rIx (dVar 1) (dC (.int 2))) (dCons (dVar 7) dNil))) dNil)))) dNil))) dNil)))
  dNext)
  (dRet (dVar 9))))))
@[irreducible] def sp_edges_of : FSpec := spOf false 3 10 w_edges_of

def w_half_planes_of : DS := (dSeq (dSet 1 (dLst dNil))
  (dSeq (dSet 2 (dC PG.v_IDENTITY))
  (dSeq (dFor (dEnum (dCons (dVar 0) dNil)) (.tp [3, 4])
  (dSeq (dIfS (dTest (dOp rEq (dOp rIx (dVar 4) (dC (.int 0))) (dC (.str ("stop" : Str)))))
  (dSet 1 (dOp rAddA (dVar 1) (dCall PG.sp_edges_of [] (dCons (dVar 3) (dCons (dVar 4) (dCons (dVar 2) dNil))))))
  dNext)
  (dSet 2 (dCall PG.sp_compose_maps [] (dCons (dVar 2) (dCons (dCall PG.sp_element_map [] (dCons (dVar 4) dNil)) dNil))))))
  (dRet (dVar 1)))))
@[irreducible] def sp_half_planes_of : FSpec := spOf false 1 5 w_half_planes_of

def w_determinant : DS := (dRet (dOp rSub (dOp rMul (dOp rIx (dVar 0) (dC (.int 0))) (dOp rIx (dVar 1) (dC (.int 1)))) (dOp rMul (dOp rIx (dVar 0) (dC (.int 1))) (dOp rIx (dVar 1) (dC (.int 0))))))
@[irreducible] def sp_determinant : FSpec := spOf false 2 2 w_determinant

def w_product : DS := (dRet (dOp rAddA (dOp rMul (dOp rIx (dVar 0) (dC (.int 0))) (dOp rIx (dVar 1) (dC (.int 0)))) (dOp rMul (dOp rIx (dVar 0) (dC (.int 1))) (dOp rIx (dVar 1) (dC (.int 1))))))
@[irreducible] def sp_product : FSpec := spOf false 2 2 w_product

def w_opposite_weights : DS := (dSeq (dIfS (dOr (dTest (dOp rNe (dCall PG.sp_determinant [] (dCons (dVar 0) (dCons (dVar 1) dNil))) (dC (.int 0)))) (dTest (dOp rGe (dCall PG.sp_product [] (dCons (dVar 0) (dCons (dVar 1) dNil))) (dC (.int 0)))))
  (dRet (dC .non))
  dNext)
  (dSeq (dSet 2 (dOp rAddA (dBi bAbs (dCons (dOp rIx (dVar 1) (dC (.int 0))) dNil)) (dBi bAbs (dCons (dOp rIx (dVar 1) (dC (.int 1))) dNil))))
  (dSeq (dSet 3 (dOp rAddA (dBi bAbs (dCons (dOp rIx (dVar 0) (dC (.int 0))) dNil)) (dBi bAbs (dCons (dOp rIx (dVar 0) (dC (.int 1))) dNil))))
  (dSeq (dSet 4 (dCall PG.sp_common_divisor [] (dCons (dVar 2) (dCons (dVar 3) dNil))))
  (dRet (dTup (dCons (dOp rDiv (dVar 2) (dVar 4)) (dCons (dOp rDiv (dVar 3) (dVar 4)) dNil))))))))
@[irreducible] def sp_opposite_weights : FSpec := spOf false 2 5 w_opposite_weights

def w_triple_weights : DS := (dSeq (dSet 3 (dLst (dCons (dCall PG.sp_determinant [] (dCons (dVar 1) (dCons (dVar 2) dNil))) (dCons (dCall PG.sp_determinant [] (dCons (dVar 2) (dCons (dVar 0) dNil))) (dCons (dCall PG.sp_determinant [] (dCons (dVar 0) (dCons (dVar 1) dNil))) dNil)))))
  (dSeq (dIfS (dTest (dOp rLt (dOp rIx (dVar 3) (dC (.int 0))) (dC (.int 0))))
  (dSet 3 (dLc false (dAny (dVar 3)) (.nm 5) dYes (rU rNeg (dVar 5)) [5]))
  dNext)
  (dSeq (dIfS (dTru (dGx false (dAny (dVar 3)) (.nm 5) (dOp rLe (dVar 5) (dC (.int 0))) [5]))
  (dRet (dC .non))
  dNext)
  (dSeq (dSet 4 (dCall PG.sp_common_divisor [] (dCons (dCall PG.sp_common_divisor [] (dCons (dOp rIx (dVar 3) (dC (.int 0))) (dCons (dOp rIx (dVar 3) (dC (.int 1))) dNil))) (dCons (dOp rIx (dVar 3) (dC (.int 2))) dNil))))
  (dRet (dBi bTuple (dCons (dLc false (dAny (dVar 3)) (.nm 5) dYes (dOp rDiv (dVar 5) (dVar 4)) [5]) dNil)))))))
@[irreducible] def sp_triple_weights : FSpec := spOf false 3 6 w_triple_weights

def w_opposing_sets : DS := (dSeq (dSet 1 (dBi bLen (dCons (dVar 0) dNil)))
  (dSeq (dSet 2 (dLstO dNil))
  (dSeq (dFor (dRange1 (dCons (dVar 1) dNil)) (.nm 3)
  (dFor (dRange2 (dCons (dOp rAddA (dVar 3) (dC (.int 1))) (dCons (dVar 1) dNil))) (.nm 4)
  (dDo (dMeth mAppend (dVar 2) (dCons (dTup (dCons (dTup (dCons (dVar 3) (dCons (dVar 4) dNil))) (dCons (dCall PG.sp_opposite_weights [] (dCons (dOp rIx (dVar 0) (dVar 3)) (dCons (dOp rIx (dVar 0) (dVar 4)) dNil))) dNil))) dNil)))))
  (dSeq (dFor (dRange1 (dCons (dVar 1) dNil)) (.nm 3)
  (dFor (dRange2 (dCons (dOp rAddA (dVar 3) (dC (.int 1))) (dCons (dVar 1) dNil))) (.nm 4)
  (dFor (dRange2 (dCons (dOp rAddA (dVar 4) (dC (.int 1))) (dCons (dVar 1) dNil))) (.nm 5)
  (dDo (dMeth mAppend (dVar 2) (dCons (dTup (dCons (dTup (dCons (dVar 3) (dCons (dVar 4) (dCons (dVar 5) dNil)))) (dCons (dCall PG.sp_triple_weights [] (dCons (dOp rIx (dVar 0) (dVar 3)) (dCons (dOp rIx (dVar 0) (dVar 4)) (dCons (dOp rIx (dVar 0) (dVar 5)) dNil)))) dNil))) dNil))))))
  (dRet (dLc false (dAny (dVar 2)) (.nm 6) (dTest (dNotN (dOp rIx (dVar 6) (dC (.int 1))))) (dVar 6) [6]))))))
@[irreducible] def sp_opposing_sets : FSpec := spOf false 1 7 w_opposing_sets

def w_number_of : DS := (dRet (dBi bSum (dCons (dLc false (dZipT (dCons (dVar 1) (dCons (dVar 2) dNil))) (.tp [3, 4]) dYes (dOp rMul (dOp rIx (dOp rIx (dVar 0) (dVar 3)) (dC (.int 2))) (dVar 4)) [3, 4]) dNil)))
@[irreducible] def sp_number_of : FSpec := spOf false 3 5 w_number_of

def w_is_empty : DS := (dRet (dGx false (dAny (dCall PG.sp_opposing_sets [] (dCons (dVar 0) dNil))) (.tp [1, 2]) (dOp rLt (dCall PG.sp_number_of [] (dCons (dVar 0) (dCons (dVar 1) (dCons (dVar 2) dNil)))) (dC (.int 0))) [1, 2]))
@[irreducible] def sp_is_empty : FSpec := spOf false 1 3 w_is_empty

def w_single_bound : DS := (dSeq (dSet 3 (dCall PG.sp_subtract [] (dCons (dCall PG.sp_multiply [] (dCons (dCall PG.sp_fraction [.d (.int 1)] (dCons (dOp rIx (dVar 0) (dC (.int 0))) dNil)) (dCons (dVar 2) dNil))) (dCons (dCall PG.sp_multiply [] (dCons (dCall PG.sp_fraction [.d (.int 1)] (dCons (dOp rIx (dVar 0) (dC (.int 1))) dNil)) (dCons (dVar 1) dNil))) dNil))))
  (dSeq (dSet 4 (dCall PG.sp_add [] (dCons (dCall PG.sp_multiply [] (dCons (dCall PG.sp_fraction [.d (.int 1)] (dCons (dOp rIx (dVar 0) (dC (.int 0))) dNil)) (dCons (dVar 1) dNil))) (dCons (dCall PG.sp_multiply [] (dCons (dCall PG.sp_fraction [.d (.int 1)] (dCons (dOp rIx (dVar 0) (dC (.int 1))) dNil)) (dCons (dVar 2) dNil))) dNil))))
  (dSeq (dIfS (dOr (dTest (dOp rNe (dVar 3) (dC PG.v_ZERO))) (dTest (dOp rLe (dCall PG.sp_sign [] (dCons (dVar 4) dNil)) (dC (.int 0)))))
  (dRet (dC .non))
  dNext)
  (dSeq (dSet 5 (dCall PG.sp_divide [] (dCons (dVar 4) (dCons (dCall PG.sp_fraction [.d (.int 1)] (dCons (dCall PG.sp_product [] (dCons (dVar 0) (dCons (dVar 0) dNil))) dNil)) dNil))))
  (dRet (dCall PG.sp_multiply [] (dCons (dVar 5) (dCons (dCall PG.sp_fraction [.d (.int 1)] (dCons (dOp rIx (dVar 0) (dC (.int 2))) dNil)) dNil))))))))
@[irreducible] def sp_single_bound : FSpec := spOf false 3 6 w_single_bound

def w_pair_weights : DS := (dSeq (dSet 4 (dCall PG.sp_determinant [] (dCons (dVar 0) (dCons (dVar 1) dNil))))
  (dSeq (dIfS (dTest (dOp rEq (dVar 4) (dC (.int 0))))
  (dRet (dC .non))
  dNext)
  (dSeq (dSet 5 (dCall PG.sp_divide [] (dCons (dCall PG.sp_subtract [] (dCons (dCall PG.sp_multiply [] (dCons (dVar 2) (dCons (dCall PG.sp_fraction [.d (.int 1)] (dCons (dOp rIx (dVar 1) (dC (.int 1))) dNil)) dNil))) (dCons (dCall PG.sp_multiply [] (dCons (dVar 3) (dCons (dCall PG.sp_fraction [.d (.int 1)] (dCons (dOp rIx (dVar 1) (dC (.int 0))) dNil)) dNil))) dNil))) (dCons (dCall PG.sp_fraction [.d (.int 1)] (dCons (dVar 4) dNil)) dNil))))
  (dSeq (dSet 6 (dCall PG.sp_divide [] (dCons (dCall PG.sp_subtract [] (dCons (dCall PG.sp_multiply [] (dCons (dVar 3) (dCons (dCall PG.sp_fraction [.d (.int 1)] (dCons (dOp rIx (dVar 0) (dC (.int 0))) dNil)) dNil))) (dCons (dCall PG.sp_multiply [] (dCons (dVar 2) (dCons (dCall PG.sp_fraction [.d (.int 1)] (dCons (dOp rIx (dVar 0) (dC (.int 1))) dNil)) dNil))) dNil))) (dCons (dCall PG.sp_fraction [.d (.int 1)] (dCons (dVar 4) dNil)) dNil))))
  (dSeq (dIfS (dOr (dTest (dOp rLe (dCall PG.sp_sign [] (dCons (dVar 5) dNil)) (dC (.int 0)))) (dTest (dOp rLe (dCall PG.sp_sign [] (dCons (dVar 6) dNil)) (dC (.int 0)))))
  (dRet (dC .non))
  dNext)
  (dRet (dTup (dCons (dVar 5) (dCons (dVar 6) dNil)))))))))
@[irreducible] def sp_pair_weights : FSpec := spOf false 4 7 w_pair_weights

def w_pair_bound : DS := (dSeq (dSet 4 (dCall PG.sp_pair_weights [] (dCons (dVar 0) (dCons (dVar 1) (dCons (dVar 2) (dCons (dVar 3) dNil))))))
  (dSeq (dIfS (dTest (dIsN (dVar 4)))
  (dRet (dC .non))
  dNext)
  (dRet (dCall PG.sp_add [] (dCons (dCall PG.sp_multiply [] (dCons (dOp rIx (dVar 4) (dC (.int 0))) (dCons (dCall PG.sp_fraction [.d (.int 1)] (dCons (dOp rIx (dVar 0) (dC (.int 2))) dNil)) dNil))) (dCons (dCall PG.sp_multiply [] (dCons (dOp rIx (dVar 4) (dC (.int 1))) (dCons (dCall PG.sp_fraction [.d (.int 1)] (dCons (dOp rIx (dVar 1) (dC (.int 2))) dNil)) dNil))) dNil))))))
@[irreducible] def sp_pair_bound : FSpec := spOf false 4 5 w_pair_bound

def w_supremum : DS := (dSeq (dIfS (dAnd (dTest (dOp rEq (dVar 1) (dC PG.v_ZERO))) (dTest (dOp rEq (dVar 2) (dC PG.v_ZERO))))
  (dRet (dC PG.v_ZERO))
  dNext)
  (dSeq (dSet 4 (dLc true (dAny (dVar 0)) (.nm 3) dYes (dCall PG.sp_single_bound [] (dCons (dVar 3) (dCons (dVar 1) (dCons (dVar 2) dNil)))) [3]))
  (dSeq (dFor (dEnum (dCons (dVar 0) dNil)) (.tp [5, 3])
  (dFor (dAny (dSl false (dVar 0) (dPart (dOp rAddA (dVar 5) (dC (.int 1)))) dNoP)) (.nm 6)
  (dDo (dMeth mAppend (dVar 4) (dCons (dCall PG.sp_pair_bound [] (dCons (dVar 3) (dCons (dVar 6) (dCons (dVar 1) (dCons (dVar 2) dNil))))) dNil)))))
  (dRet (dCall PG.sp_least_of [] (dCons (dFz 4) dNil))))))
@[irreducible] def sp_supremum : FSpec := spOf false 3 7 w_supremum

def w_map_half_planes : DS := (dSeq (dAsg (dCall PG.sp_invert_map [] (dCons (dVar 0) dNil)) (.tp [2, 3, 4, 5, 6, 7]))
  (dSeq (dSet 8 (dLstO dNil))
  (dSeq (dFor (dAny (dVar 1)) (.nm 9)
  (dSeq (dSet 10 (dCall PG.sp_fraction [.d (.int 1)] (dCons (dOp rIx (dVar 9) (dC (.int 0))) dNil)))
  (dSeq (dSet 11 (dCall PG.sp_fraction [.d (.int 1)] (dCons (dOp rIx (dVar 9) (dC (.int 1))) dNil)))
  (dSeq (dSet 12 (dCall PG.sp_subtract [] (dCons (dCall PG.sp_fraction [.d (.int 1)] (dCons (dOp rIx (dVar 9) (dC (.int 2))) dNil)) (dCons (dCall PG.sp_add [] (dCons (dCall PG.sp_multiply [] (dCons (dVar 10) (dCons (dVar 6) dNil))) (dCons (dCall PG.sp_multiply [] (dCons (dVar 11) (dCons (dVar 7) dNil))) dNil))) dNil))))
  (dDo (dMeth mAppend (dVar 8) (dCons (dCall PG.sp_make_half_plane [] (dCons (dCall PG.sp_add [] (dCons (dCall PG.sp_multiply [] (dCons (dVar 10) (dCons (dVar 2) dNil))) (dCons (dCall PG.sp_multiply [] (dCons (dVar 11) (dCons (dVar 4) dNil))) dNil))) (dCons (dCall PG.sp_add [] (dCons (dCall PG.sp_multiply [] (dCons (dVar 10) (dCons (dVar 3) dNil))) (dCons (dCall PG.sp_multiply [] (dCons (dVar 11) (dCons (dVar 5) dNil))) dNil))) (dCons (dVar 12) dNil)))) dNil)))))))
  (dRet (dVar 8)))))
@[irreducible] def sp_map_half_planes : FSpec := spOf false 2 13 w_map_half_planes

def w__law_least_3 : DS := (dSeq (dSet 1 (dC .non))
  (dSeq (dFor (dAny (dVar 0)) (.nm 2)
  (dIfS (dOr (dTest (dIsN (dVar 1))) (dTru (dCall PG.sp__law_less [] (dCons (dVar 2) (dCons (dVar 1) dNil)))))
  (dSet 1 (dVar 2))
  dNext))
  (dRet (dVar 1))))
@[irreducible] def sp__law_least_3 : FSpec := spOf false 1 3 w__law_least_3

def w__law_greatest : DS := (dSeq (dSet 1 (dC .non))
  (dSeq (dFor (dAny (dVar 0)) (.nm 2)
  (dIfS (dOr (dTest (dIsN (dVar 1))) (dTru (dCall PG.sp__law_less [] (dCons (dVar 1) (dCons (dVar 2) dNil)))))
  (dSet 1 (dVar 2))
  dNext))
  (dRet (dVar 1))))
@[irreducible] def sp__law_greatest : FSpec := spOf false 1 3 w__law_greatest

def w_is_implied : DS := (dSeq (dIfS (dTru (dCall PG.sp_is_empty [] (dCons (dVar 0) dNil)))
  (dRet (dC (.bl true)))
  dNext)
  (dSeq (dSet 2 (dCall PG.sp_supremum [] (dCons (dVar 0) (dCons (dCall PG.sp_fraction [.d (.int 1)] (dCons (dOp rIx (dVar 1) (dC (.int 0))) dNil)) (dCons (dCall PG.sp_fraction [.d (.int 1)] (dCons (dOp rIx (dVar 1) (dC (.int 1))) dNil)) dNil)))))
  (dRet (dAndV (dNotN (dVar 2)) (dOp rLe (dCall PG.sp_compare [] (dCons (dVar 2) (dCons (dCall PG.sp_fraction [.d (.int 1)] (dCons (dOp rIx (dVar 1) (dC (.int 2))) dNil)) dNil))) (dC (.int 0)))))))
@[irreducible] def sp_is_implied : FSpec := spOf false 2 3 w_is_implied

def w_planes_of : DS := (dRet (dLc false (dAny (dCall PG.sp_half_planes_of [] (dCons (dVar 0) dNil))) (.tp [1, 2]) dYes (dVar 2) [1, 2]))
@[irreducible] def sp_planes_of : FSpec := spOf false 1 3 w_planes_of

def w__law_edges_2 : DS := (dSeq (dSet 1 (dLstO dNil))
  (dSeq (dFor (dRange1 (dCons (dBi bLen (dCons (dVar 0) dNil)) dNil)) (.nm 2)
  (dSeq (dSet 3 (dOp rIx (dVar 0) (dVar 2)))
  (dIfS (dTest (dOp rEq (dOp rIx (dVar 3) (dC (.int 0))) (dC (.str ("stop" : Str)))))
  (dSeq (dAsg (dCall PG.sp__law_map [] (dCons (dSl false (dVar 0) dNoP (dPart (dVar 2))) dNil)) (.tp [4, 5, 6, 7, 8, 9]))
  (dSeq (dIfS (dTest (dNotN (dOp rIx (dVar 3) (dC (.int 1)))))
  (dDo (dMeth mAppend (dVar 1) (dCons (dTup (dCons (dTup (dCons (dVar 2) (dCons (dC (.str ("lower" : Str))) dNil))) (dCons (dCall PG.sp__law_plane [] (dCons (dCall PG.sp__law_neg [] (dCons (dVar 4) dNil)) (dCons (dCall PG.sp__law_neg [] (dCons (dVar 5) dNil)) (dCons (dCall PG.sp__law_sub_2 [] (dCons (dVar 8) (dCons (dOp rIx (dVar 3) (dC (.int 1))) dNil))) dNil)))) dNil))) dNil)))
  dNext)
  (dIfS (dTest (dNotN (dOp rIx (dVar 3) (dC (.int 2)))))
  (dDo (dMeth mAppend (dVar 1) (dCons (dTup (dCons (dTup (dCons (dVar 2) (dCons (dC (.str ("upper" : Str))) dNil))) (dCons (dCall PG.sp__law_plane [] (dCons (dVar 4) (dCons (dVar 5) (dCons (dCall PG.sp__law_sub_2 [] (dCons (dOp rIx (dVar 3) (dC (.int 2))) (dCons (dVar 8) dNil))) dNil)))) dNil))) dNil)))
  dNext)))
  dNext)))
  (dRet (dVar 1))))
@[irreducible] def sp__law_edges_2 : FSpec := spOf false 1 10 w__law_edges_2

def w__law_line_2 : DS := (dSeq (dAsgL (dLc false (dAny (dVar 0)) (.nm 7) dYes (dTup (dCons (dVar 7) (dCons (dC (.int 1)) dNil))) [7]) [3, 4, 5])
  (dSeq (dIfS (dTest (dOp rNe (dOp rIx (dVar 2) (dC (.int 0))) (dC (.int 0))))
  (dSeq (dSet 6 (dCall PG.sp__law_div [] (dCons (dVar 4) (dCons (dVar 2) dNil))))
  (dRet (dTup (dCons (dVar 6) (dCons (dCall PG.sp__law_sub_2 [] (dCons (dVar 3) (dCons (dCall PG.sp__law_mul_2 [] (dCons (dVar 6) (dCons (dVar 1) dNil))) dNil))) (dCons (dVar 5) dNil))))))
  dNext)
  (dRet (dTup (dCons (dCall PG.sp__law_div [] (dCons (dVar 3) (dCons (dVar 1) dNil))) (dCons (dVar 4) (dCons (dVar 5) dNil)))))))
@[irreducible] def sp__law_line_2 : FSpec := spOf false 3 8 w__law_line_2

def w__law_bounds_2 : DS := (dSeq (dSet 3 (dLc false (dAny (dVar 0)) (.nm 14) dYes (dCall PG.sp__law_line_2 [] (dCons (dVar 14) (dCons (dVar 1) (dCons (dVar 2) dNil)))) [14]))
  (dSeq (dSet 4 (dLc true (dAny (dVar 3)) (.nm 15) (dTest (dOp rEq (dOp rIx (dOp rIx (dVar 15) (dC (.int 1))) (dC (.int 0))) (dC (.int 0)))) (dVar 15) [15]))
  (dSeq (dFor (dAny (dLc false (dAny (dVar 3)) (.nm 15) (dTest (dOp rGt (dOp rIx (dOp rIx (dVar 15) (dC (.int 1))) (dC (.int 0))) (dC (.int 0)))) (dVar 15) [15])) (.nm 5)
  (dFor (dAny (dLc false (dAny (dVar 3)) (.nm 15) (dTest (dOp rLt (dOp rIx (dOp rIx (dVar 15) (dC (.int 1))) (dC (.int 0))) (dC (.int 0)))) (dVar 15) [15])) (.nm 6)
  (dSeq (dSet 7 (dCall PG.sp__law_neg [] (dCons (dCall PG.sp__law_div [] (dCons (dOp rIx (dVar 5) (dC (.int 1))) (dCons (dOp rIx (dVar 6) (dC (.int 1))) dNil))) dNil)))
  (dSeq (dSet 8 (dCall PG.sp__law_add_2 [] (dCons (dOp rIx (dVar 5) (dC (.int 0))) (dCons (dCall PG.sp__law_mul_2 [] (dCons (dVar 7) (dCons (dOp rIx (dVar 6) (dC (.int 0))) dNil))) dNil))))
  (dDo (dMeth mAppend (dVar 4) (dCons (dTup (dCons (dVar 8) (dCons (dTup (dCons (dC (.int 0)) (dCons (dC (.int 1)) dNil))) (dCons (dCall PG.sp__law_add_2 [] (dCons (dOp rIx (dVar 5) (dC (.int 2))) (dCons (dCall PG.sp__law_mul_2 [] (dCons (dVar 7) (dCons (dOp rIx (dVar 6) (dC (.int 2))) dNil))) dNil))) dNil)))) dNil)))))))
  (dSeq (dSet 9 (dLstO dNil))
  (dSeq (dSet 10 (dLstO dNil))
  (dSeq (dFor (dAny (dVar 4)) (.nm 11)
  (dSeq (dIfS (dAnd (dTest (dOp rEq (dOp rIx (dOp rIx (dVar 11) (dC (.int 0))) (dC (.int 0))) (dC (.int 0)))) (dTest (dOp rLt (dOp rIx (dOp rIx (dVar 11) (dC (.int 2))) (dC (.int 0))) (dC (.int 0)))))
  (dRet (dTup dNil))
  dNext)
  (dSeq (dIfS (dTest (dOp rGt (dOp rIx (dOp rIx (dVar 11) (dC (.int 0))) (dC (.int 0))) (dC (.int 0))))
  (dDo (dMeth mAppend (dVar 10) (dCons (dCall PG.sp__law_div [] (dCons (dOp rIx (dVar 11) (dC (.int 2))) (dCons (dOp rIx (dVar 11) (dC (.int 0))) dNil))) dNil)))
  dNext)
  (dIfS (dTest (dOp rLt (dOp rIx (dOp rIx (dVar 11) (dC (.int 0))) (dC (.int 0))) (dC (.int 0))))
  (dDo (dMeth mAppend (dVar 9) (dCons (dCall PG.sp__law_div [] (dCons (dOp rIx (dVar 11) (dC (.int 2))) (dCons (dOp rIx (dVar 11) (dC (.int 0))) dNil))) dNil)))
  dNext))))
  (dSeq (dSet 12 (dCall PG.sp__law_greatest [] (dCons (dFz 9) dNil)))
  (dSeq (dSet 13 (dCall PG.sp__law_least_3 [] (dCons (dFz 10) dNil)))
  (dSeq (dIfS (dAnd (dTest (dNotN (dVar 12))) (dAnd (dTest (dNotN (dVar 13))) (dTru (dCall PG.sp__law_less [] (dCons (dVar 13) (dCons (dVar 12) dNil))))))
  (dRet (dTup dNil))
  dNext)
  (dRet (dTup (dCons (dVar 12) (dCons (dVar 13) dNil)))))))))))))
@[irreducible] def sp__law_bounds_2 : FSpec := spOf false 3 16 w__law_bounds_2

def w__law_implied : DS := (dSeq (dSet 2 (dCall PG.sp__law_bounds_2 [] (dCons (dVar 0) (dCons (dTup (dCons (dOp rIx (dVar 1) (dC (.int 0))) (dCons (dC (.int 1)) dNil))) (dCons (dTup (dCons (dOp rIx (dVar 1) (dC (.int 1))) (dCons (dC (.int 1)) dNil))) dNil)))))
  (dSeq (dIfS (dTest (dOp rEq (dVar 2) (dTup dNil)))
  (dRet (dC (.bl true)))
  dNext)
  (dRet (dAndV (dNotN (dOp rIx (dVar 2) (dC (.int 1)))) (dNotV (dCall PG.sp__law_less [] (dCons (dTup (dCons (dOp rIx (dVar 1) (dC (.int 2))) (dCons (dC (.int 1)) dNil))) (dCons (dOp rIx (dVar 2) (dC (.int 1))) dNil))))))))
@[irreducible] def sp__law_implied : FSpec := spOf false 2 3 w__law_implied

def w_power_of : DS := (dSeq (dSet 2 (dC PG.v_IDENTITY))
  (dSeq (dSet 3 (dVar 0))
  (dSeq (dWhile (dTest (dOp rGt (dVar 1) (dC (.int 0))))
  (dSeq (dIfS (dTest (dOp rEq (dOp rMod (dVar 1) (dC (.int 2))) (dC (.int 1))))
  (dSet 2 (dCall PG.sp_compose_maps [] (dCons (dVar 2) (dCons (dVar 3) dNil))))
  dNext)
  (dSeq (dSet 3 (dCall PG.sp_compose_maps [] (dCons (dVar 3) (dCons (dVar 3) dNil))))
  (dAug 1 (rInt CDiv fun a b => .int (a / b)) (dC (.int 2))))))
  (dRet (dVar 2)))))
@[irreducible] def sp_power_of : FSpec := spOf false 2 4 w_power_of

def w__law_cavity : DS := (dSeq (dSet 1 (dTup (dCons (dC (.str ("gap" : Str))) (dCons (dOp rIx (dLst (dCons (dTup (dCons (dC (.int 1)) (dCons (dC (.int 1)) dNil))) (dCons (dTup (dCons (dC (.int 2)) (dCons (dC (.int 1)) dNil))) (dCons (dTup (dCons (dC (.int 1)) (dCons (dC (.int 2)) dNil))) (dCons (dTup (dCons (rU rNeg (dC (.int 1))) (dCons (dC (.int 1)) dNil))) dNil))))) (dCall PG.sp__law_draw_2 [] (dCons (dVar 0) (dCons (dC (.int 4)) dNil)))) dNil))))
  (dSeq (dSet 2 (dTup (dCons (dC (.str ("lens" : Str))) (dCons (dOp rIx (dLst (dCons (dTup (dCons (dC (.int 1)) (dCons (dC (.int 1)) dNil))) (dCons (dTup (dCons (dC (.int 2)) (dCons (dC (.int 1)) dNil))) (dCons (dTup (dCons (dC (.int 1)) (dCons (dC (.int 2)) dNil))) (dCons (dTup (dCons (dC (.int 3)) (dCons (dC (.int 1)) dNil))) (dCons (dTup (dCons (dC (.int 4)) (dCons (dC (.int 1)) dNil))) (dCons (dTup (dCons (rU rNeg (dC (.int 1))) (dCons (dC (.int 1)) dNil))) (dCons (dTup (dCons (dC (.int 3)) (dCons (dC (.int 2)) dNil))) dNil)))))))) (dCall PG.sp__law_draw_2 [] (dCons (dVar 0) (dCons (dC (.int 7)) dNil)))) (dCons (dOp rIx (dLst (dCons (dTup (dCons (dC (.int 0)) (dCons (dC (.int 1)) dNil))) (dCons (dTup (dCons (dC (.int 0)) (dCons (dC (.int 1)) dNil))) (dCons (dTup (dCons (dC (.int 1)) (dCons (dC (.int 2)) dNil))) dNil)))) (dCall PG.sp__law_draw_2 [] (dCons (dVar 0) (dCons (dC (.int 3)) dNil)))) dNil)))))
  (dSeq (dSet 3 (dLstO (dCons (dCall PG.sp__law_stop_2 [] (dCons (dVar 0) dNil)) (dCons (dVar 1) (dCons (dVar 2) dNil)))))
  (dSeq (dSet 4 (dCall PG.sp__law_draw_2 [] (dCons (dVar 0) (dCons (dC (.int 6)) dNil))))
  (dSeq (dIfS (dTest (dOp rEq (dVar 4) (dC (.int 0))))
  (dSet 3 (dLstO (dCons (dCall PG.sp__law_stop_2 [] (dCons (dVar 0) dNil)) (dCons (dTup (dCons (dC (.str ("afocal" : Str))) (dCons (dOp rIx (dLst (dCons (dTup (dCons (dC (.int 2)) (dCons (dC (.int 1)) dNil))) (dCons (dTup (dCons (rU rNeg (dC (.int 1))) (dCons (dC (.int 1)) dNil))) (dCons (dTup (dCons (dC (.int 1)) (dCons (dC (.int 2)) dNil))) dNil)))) (dCall PG.sp__law_draw_2 [] (dCons (dVar 0) (dCons (dC (.int 3)) dNil)))) dNil))) dNil))))
  dNext)
  (dSeq (dIfS (dTest (dOp rEq (dVar 4) (dC (.int 1))))
  (dSet 3 (dLstO (dCons (dCall PG.sp__law_stop_2 [] (dCons (dVar 0) dNil)) (dCons (dVar 1) dNil))))
  dNext)
  (dSeq (dIfS (dTest (dOp rEq (dVar 4) (dC (.int 2))))
  (dDo (dMeth mAppend (dVar 3) (dCons (dTup (dCons (dC (.str ("prism" : Str))) (dCons (dCall PG.sp__law_fraction [] (dCons (dVar 0) dNil)) dNil))) dNil)))
  dNext)
  (dSeq (dIfS (dTest (dOp rEq (dCall PG.sp__law_draw_2 [] (dCons (dVar 0) (dCons (dC (.int 2)) dNil))) (dC (.int 0))))
  (dDo (dMeth mAppend (dVar 3) (dCons (dCall PG.sp__law_stop_2 [] (dCons (dVar 0) dNil)) dNil)))
  dNext)
  (dSeq (dIfS (dTest (dOp rEq (dCall PG.sp__law_draw_2 [] (dCons (dVar 0) (dCons (dC (.int 6)) dNil))) (dC (.int 0))))
  (dSet 3 (dCat true (dLc false (dAny (dVar 3)) (.nm 5) (dTest (dOp rNe (dOp rIx (dVar 5) (dC (.int 0))) (dC (.str ("stop" : Str))))) (dVar 5) [5]) (dLst (dCons (dTup (dCons (dC (.str ("stop" : Str))) (dCons (dTup (dCons (rU rNeg (dC (.int 4))) (dCons (dC (.int 1)) dNil))) (dCons (dTup (dCons (dC (.int 4)) (dCons (dC (.int 1)) dNil))) dNil)))) dNil))))
  dNext)
  (dRet (dVar 3)))))))))))
@[irreducible] def sp__law_cavity : FSpec := spOf false 1 6 w__law_cavity

def w_pass_planes : DS := (dSeq (dSet 2 (dCall PG.sp_planes_of [] (dCons (dVar 0) dNil)))
  (dSeq (dSet 3 (dCall PG.sp_invert_map [] (dCons (dCall PG.sp_ray_transfer [] (dCons (dVar 0) dNil)) dNil)))
  (dSeq (dSet 4 (dLstO dNil))
  (dSeq (dFor (dRange1 (dCons (dVar 1) dNil)) (.nm 5)
  (dAugL 4 (dCall PG.sp_map_half_planes [] (dCons (dCall PG.sp_power_of [] (dCons (dVar 3) (dCons (dVar 5) dNil))) (dCons (dVar 2) dNil)))))
  (dRet (dVar 4))))))
@[irreducible] def sp_pass_planes : FSpec := spOf false 2 6 w_pass_planes

def w_holds_next : DS := (dSeq (dSet 2 (dCall PG.sp_pass_planes [] (dCons (dVar 0) (dCons (dVar 1) dNil))))
  (dSeq (dIfS (dTru (dCall PG.sp_is_empty [] (dCons (dVar 2) dNil)))
  (dRet (dC (.bl true)))
  dNext)
  (dSeq (dSet 3 (dCall PG.sp_map_half_planes [] (dCons (dCall PG.sp_power_of [] (dCons (dCall PG.sp_invert_map [] (dCons (dCall PG.sp_ray_transfer [] (dCons (dVar 0) dNil)) dNil)) (dCons (dVar 1) dNil))) (dCons (dCall PG.sp_planes_of [] (dCons (dVar 0) dNil)) dNil))))
  (dRet (dBi bAll (dCons (dLc false (dAny (dVar 3)) (.nm 4) dYes (dCall PG.sp_is_implied [] (dCons (dVar 2) (dCons (dVar 4) dNil))) [4]) dNil))))))
@[irreducible] def sp_holds_next : FSpec := spOf false 2 5 w_holds_next

def w_settled : DS := (dSeq (dFor (dRange1 (dCons (dOp rAddA (dVar 1) (dC (.int 1))) dNil)) (.nm 2)
  (dIfS (dTru (dCall PG.sp_holds_next [] (dCons (dVar 0) (dCons (dVar 2) dNil))))
  (dRet (dVar 2))
  dNext))
  (dRet (dC .non)))
@[irreducible] def sp_settled : FSpec := spOf false 2 3 w_settled

def w_is_kept : DS := (dRet (dCall PG.sp_holds_next [] (dCons (dVar 0) (dCons (dC (.int 1)) dNil))))
@[irreducible] def sp_is_kept : FSpec := spOf false 1 1 w_is_kept

def w__law_way : DS := (dSeq (dSet 2 (dLstO dNil))
  (dSeq (dFor (dRange1 (dCons (dVar 1) dNil)) (.nm 3)
  (dFor (dAny (dCall PG.sp__law_edges_2 [] (dCons (dOp rRepD (dVar 0) (dOp rAddA (dVar 3) (dC (.int 1)))) dNil))) (.nm 4)
  (dIfS (dTest (dOp rGe (dOp rIx (dOp rIx (dVar 4) (dC (.int 0))) (dC (.int 0))) (dOp rMul (dBi bLen (dCons (dVar 0) dNil)) (dVar 3))))
  (dDo (dMeth mAppend (dVar 2) (dCons (dOp rIx (dVar 4) (dC (.int 1))) dNil)))
  dNext)))
  (dRet (dVar 2))))
@[irreducible] def sp__law_way : FSpec := spOf false 2 5 w__law_way

def w_law_40 : DS := (dSeq (dSet 1 (dCall PG.sp__law_box [] (dCons (dVar 0) (dCons (dC (.int 0)) (dCons (dC (.int 40)) dNil)))))
  (dSeq (dSet 2 (dCall PG.sp__law_cavity [] (dCons (dVar 1) dNil)))
  (dSeq (dSet 3 (dCall PG.sp__law_draw_2 [] (dCons (dVar 1) (dCons (dC (.int 4)) dNil))))
  (dSeq (dIfS (dNot (dTru (dCall PG.sp__law_same [] (dCons (dCall PG.sp_pass_planes [] (dCons (dVar 2) (dCons (dVar 3) dNil))) (dCons (dCall PG.sp__law_way [] (dCons (dVar 2) (dCons (dVar 3) dNil))) dNil)))))
  (dRet (dC (.bl false)))
  dNext)
  (dSeq (dSet 4 (dC .non))
  (dSeq (dFor (dRange1 (dCons (dC (.int 5)) dNil)) (.nm 5)
  (dSeq (dSet 6 (dCall PG.sp__law_way [] (dCons (dVar 2) (dCons (dVar 5) dNil))))
  (dSeq (dSet 7 (dCall PG.sp__law_way [] (dCons (dVar 2) (dCons (dOp rAddA (dVar 5) (dC (.int 1))) dNil))))
  (dIfS (dAnd (dTest (dIsN (dVar 4))) (dTest (dOp rEq (dLc false (dAny (dVar 7)) (.nm 10) (dNot (dTru (dCall PG.sp__law_implied [] (dCons (dVar 6) (dCons (dVar 10) dNil))))) (dC (.int 1)) [10]) (dLst dNil))))
  (dSet 4 (dVar 5))
  dNext))))
  (dSeq (dSet 8 (dCall PG.sp__law_draw_2 [] (dCons (dVar 1) (dCons (dC (.int 5)) dNil))))
  (dSeq (dIfS (dAnd (dTest (dNotN (dVar 4))) (dTest (dOp rGt (dVar 4) (dVar 8))))
  (dSet 4 (dC .non))
  dNext)
  (dSeq (dIfS (dNot (dTru (dCall PG.sp__law_same [] (dCons (dCall PG.sp_settled [] (dCons (dVar 2) (dCons (dVar 8) dNil))) (dCons (dVar 4) dNil)))))
  (dRet (dC (.bl false)))
  dNext)
  (dSeq (dSet 9 (dCall PG.sp__law_way [] (dCons (dVar 2) (dCons (dC (.int 1)) dNil))))
  (dRet (dCall PG.sp__law_same [] (dCons (dCall PG.sp_is_kept [] (dCons (dVar 2) dNil)) (dCons (dOp rEq (dLc false (dAny (dCall PG.sp__law_way [] (dCons (dVar 2) (dCons (dC (.int 2)) dNil)))) (.nm 10) (dNot (dTru (dCall PG.sp__law_implied [] (dCons (dVar 9) (dCons (dVar 10) dNil))))) (dC (.int 1)) [10]) (dLst dNil)) dNil))))))))))))))
@[irreducible] def sp_law_40 : FSpec := spOf false 1 11 w_law_40

end PG

set_option maxRecDepth 100000
set_option maxHeartbeats 4000000
namespace PG
open PySem PySem.Spec PyProof.Rows L2 RT
theorem abs_eq (a : Int) : (if a < 0 then -a else a) = (a.natAbs : Int) := by
  split <;> omega
theorem gcd_ok {a b : Int} {st : List Cell} {Q : Vl → List Cell → Prop} (h : Q (.d (.int (Int.gcd a b : Int))) st) : sp_common_divisor [.d (.int a), .d (.int b)] st Q := by
  unfold sp_common_divisor
  refine ⟨rfl, ?_⟩
  refine ⟨fun n m => ∃ x y : Nat, m = ⟨[some (.d (.int a)), some (.d (.int b)), some (.d (.int x)), some (.d (.int y))], st⟩ ∧ n = y ∧ Nat.gcd x y = Int.gcd a b, ⟨b.natAbs, a.natAbs, b.natAbs, ?_, rfl, rfl⟩, ?_⟩
  · rw [← abs_eq a, ← abs_eq b]
    rfl
  · rintro y m ⟨x, _, rfl, rfl, hg⟩
    refine ⟨trivial, ?_⟩
    show if (decide ((0 : Int) < y)) = true then _ else _
    by_cases hy : (0 : Int) < y
    · rw [if_pos (decide_eq_true hy)]
      refine ⟨by omega, ?_⟩
      refine ⟨x % y, Nat.mod_lt _ (by omega), y, x % y, ?_, rfl, ?_⟩
      · rw [Int.natCast_emod, ← Int.fmod_eq_emod_of_nonneg _ (by omega)]
        rfl
      · rw [← hg, Nat.gcd_comm x y, Nat.gcd_rec y x, Nat.gcd_comm]
    · rw [if_neg (by simp; omega)]
      have e : y = 0 := by omega
      subst e
      rw [Nat.gcd_zero_right] at hg
      show Q (.d (.int x)) (st.take st.length)
      rw [List.take_length, hg]
      exact h

theorem tk {st : List Cell} {Q : Vl → List Cell → Prop} {v : Vl} (h : Q v st) : Q v (st.take st.length) := by
  rw [List.take_length]
  exact h
def fr (q : Rat) : Dt := .tup [.int q.num, .int q.den]
def zb (q : Rat) : Nat := max q.num.natAbs.log2 q.den.log2 + 2
theorem lineN {n : Nat} (h : Nat.ble n 1000 = true) : n ≤ sizeLine := Nat.le_trans (Nat.le_of_ble_eq_true h) (by decide)
theorem sign_self (d : Int) : d.sign * d = (d.natAbs : Int) := by
  rcases Int.lt_trichotomy d 0 with h | h | h
  · rw [Int.sign_eq_neg_one_of_neg h]
    omega
  · subst h
    rfl
  · rw [Int.sign_eq_one_of_pos h]
    omega
theorem sgn_div {n g s : Int} (hg : g ≠ 0) (h : g ∣ n) (hs : s = 1 ∨ s = -1) : n.fdiv (s * g) = s * n / g := by
  obtain ⟨k, rfl⟩ := h
  rcases hs with rfl | rfl
  · rw [Int.one_mul, Int.one_mul, Int.mul_fdiv_cancel_left _ hg, Int.mul_ediv_cancel_left _ hg]
  · rw [show g * k = (-1 * g) * (-k) by rw [Int.neg_one_mul, Int.neg_mul_neg], Int.mul_fdiv_cancel_left _ (by omega), show -1 * (-1 * g * -k) = g * (-k) by rw [Int.neg_one_mul, Int.neg_one_mul, Int.neg_mul, Int.neg_neg], Int.mul_ediv_cancel_left _ hg]
theorem fraction_ok {n d : Int} {st : List Cell} {Q : Vl → List Cell → Prop} (hd : d ≠ 0) (h : Q (.d (fr (Rat.divInt n d))) st) : sp_fraction [.d (.int n), .d (.int d)] st Q := by
  unfold sp_fraction
  refine ⟨rfl, ?_⟩
  refine gcd_ok ?_
  have hg : (Int.gcd n d : Int) ≠ 0 := by
    have : Int.gcd n d ≠ 0 := fun e => hd (Int.gcd_eq_zero_iff.mp e).2
    omega
  have hn : (Int.gcd n d : Int) ∣ n := Int.gcd_dvd_left ..
  have hd' : (Int.gcd n d : Int) ∣ d := Int.gcd_dvd_right ..
  have e1 : (Rat.divInt n d).num = d.sign * n / Int.gcd n d := by rw [Rat.num_divInt, Int.gcd_comm]
  have e2 : (((Rat.divInt n d).den : Nat) : Int) = d.sign * d / Int.gcd n d := by
    rw [Rat.den_divInt, if_neg hd, Int.natCast_ediv, Int.gcd_comm, sign_self]
  have fin : ∀ s : Int, (s = 1 ∨ s = -1) → s = d.sign → s * (Int.gcd n d : Int) ≠ 0 ∧ s * (Int.gcd n d : Int) ≠ 0 ∧ Q (.d (.tup [.int (n.fdiv (s * Int.gcd n d)), .int (d.fdiv (s * Int.gcd n d))])) st := fun s hs e => by
    refine ⟨by rcases hs with rfl | rfl <;> omega, by rcases hs with rfl | rfl <;> omega, ?_⟩
    rw [sgn_div hg hn hs, sgn_div hg hd' hs, e, ← e1, ← e2]
    exact h
  refine ⟨trivial, ?_⟩
  show if (decide (d < 0)) = true then _ else _
  by_cases hs : d < 0
  · rw [if_pos (decide_eq_true hs)]
    obtain ⟨a, b, c⟩ := fin (-1) (.inr rfl) (Int.sign_eq_neg_one_of_neg hs).symm
    rw [Int.neg_one_mul] at a b c
    exact ⟨a, b, lineN rfl, tk c⟩
  · rw [if_neg (by simp; omega)]
    obtain ⟨a, b, c⟩ := fin 1 (.inl rfl) (Int.sign_eq_one_of_pos (by omega)).symm
    rw [Int.one_mul] at a b c
    exact ⟨a, b, lineN rfl, tk c⟩

theorem log2_mul_le {a b : Nat} : (a * b).log2 ≤ a.log2 + b.log2 + 1 := by
  by_cases ha : a = 0
  · subst ha
    simp
  by_cases hb : b = 0
  · subst hb
    simp
  have h1 := Nat.lt_log2_self (n := a)
  have h2 := Nat.lt_log2_self (n := b)
  have h3 : a * b < 2 ^ (a.log2 + 1 + (b.log2 + 1)) := by
    rw [Nat.pow_add]
    exact Nat.mul_lt_mul'' h1 h2
  have h4 := (Nat.log2_lt (Nat.mul_ne_zero ha hb)).mpr h3
  omega
theorem log2_mono {a b : Nat} (h : a ≤ b) : a.log2 ≤ b.log2 := by
  by_cases ha : a = 0
  · subst ha
    simp
  have := Nat.lt_log2_self (n := b)
  have h4 := (Nat.log2_lt ha).mpr (Nat.lt_of_le_of_lt h this)
  omega
theorem log2_add_le {a b : Nat} : (a + b).log2 ≤ max a.log2 b.log2 + 1 := by
  have h1 : a + b ≤ 2 * max a b := by omega
  have h2 := log2_mono h1
  have h3 : (2 * max a b).log2 ≤ (max a b).log2 + 1 := by
    by_cases h : max a b = 0
    · rw [h]
      simp
    · rw [Nat.log2_two_mul h]
      exact Nat.le_refl _
  have h4 : (max a b).log2 ≤ max a.log2 b.log2 := by
    by_cases h : a ≤ b
    · rw [Nat.max_eq_right h]
      omega
    · rw [Nat.max_eq_left (by omega)]
      omega
  omega
theorem zb_divInt {n d : Int} (hd : d ≠ 0) : zb (Rat.divInt n d) ≤ max n.natAbs.log2 d.natAbs.log2 + 2 := by
  unfold zb
  have h1 : (Rat.divInt n d).num.natAbs ≤ n.natAbs := by
    rw [Rat.num_divInt]
    have : (d.sign * n / (d.gcd n : Int)).natAbs ≤ (d.sign * n).natAbs := Int.natAbs_ediv_le_natAbs ..
    rw [Int.natAbs_mul] at this
    have hs : d.sign.natAbs = 1 := by
      rcases Int.lt_or_gt_of_ne hd with h | h
      · rw [Int.sign_eq_neg_one_of_neg h]
        rfl
      · rw [Int.sign_eq_one_of_pos h]
        rfl
    rw [hs, Nat.one_mul] at this
    exact this
  have h2 : (Rat.divInt n d).den ≤ d.natAbs := by
    rw [Rat.den_divInt, if_neg hd]
    exact Nat.div_le_self ..
  have := log2_mono h1
  have := log2_mono h2
  omega
theorem zb_num (q : Rat) : q.num.natAbs.log2 + 2 ≤ zb q := by
  unfold zb
  omega
theorem zb_den (q : Rat) : q.den.log2 + 2 ≤ zb q := by
  unfold zb
  omega
theorem zb_add (x y : Rat) : zb (x + y) ≤ zb x + zb y := by
  have h := zb_divInt (n := x.num * y.den + y.num * x.den) (d := ((x.den * y.den : Nat) : Int)) (by
    have := x.den_nz
    have := y.den_nz
    have : x.den * y.den ≠ 0 := Nat.mul_ne_zero (by assumption) (by assumption)
    omega)
  rw [Rat.divInt_ofNat, ← Rat.add_def'] at h
  have hx1 := zb_num x
  have hx2 := zb_den x
  have hy1 := zb_num y
  have hy2 := zb_den y
  have m1 : (x.num * y.den).natAbs.log2 ≤ x.num.natAbs.log2 + y.den.log2 + 1 := by
    rw [Int.natAbs_mul, Int.natAbs_natCast]
    exact log2_mul_le
  have m2 : (y.num * x.den).natAbs.log2 ≤ y.num.natAbs.log2 + x.den.log2 + 1 := by
    rw [Int.natAbs_mul, Int.natAbs_natCast]
    exact log2_mul_le
  have m3 : (x.num * y.den + y.num * x.den).natAbs.log2 ≤ max (x.num * y.den).natAbs.log2 (y.num * x.den).natAbs.log2 + 1 :=
    Nat.le_trans (log2_mono (Int.natAbs_add_le ..)) log2_add_le
  have m4 : (((x.den * y.den : Nat) : Int)).natAbs.log2 ≤ x.den.log2 + y.den.log2 + 1 := by
    rw [Int.natAbs_natCast]
    exact log2_mul_le
  omega
theorem zb_mul (x y : Rat) : zb (x * y) ≤ zb x + zb y := by
  have h := zb_divInt (n := x.num * y.num) (d := ((x.den * y.den : Nat) : Int)) (by
    have := x.den_nz
    have := y.den_nz
    have : x.den * y.den ≠ 0 := Nat.mul_ne_zero (by assumption) (by assumption)
    omega)
  rw [Rat.divInt_ofNat, ← Rat.mul_def'] at h
  have hx1 := zb_num x
  have hx2 := zb_den x
  have hy1 := zb_num y
  have hy2 := zb_den y
  have m1 : (x.num * y.num).natAbs.log2 ≤ x.num.natAbs.log2 + y.num.natAbs.log2 + 1 := by
    rw [Int.natAbs_mul]
    exact log2_mul_le
  have m4 : (((x.den * y.den : Nat) : Int)).natAbs.log2 ≤ x.den.log2 + y.den.log2 + 1 := by
    rw [Int.natAbs_natCast]
    exact log2_mul_le
  omega
theorem zb_neg (x : Rat) : zb (-x) = zb x := by
  unfold zb
  rw [Rat.neg_num, Rat.neg_den, Int.natAbs_neg]
theorem zb_sub (x y : Rat) : zb (x - y) ≤ zb x + zb y := by
  rw [Rat.sub_eq_add_neg, ← zb_neg y]
  exact zb_add x (-y)
def ZM : Nat := 60000000
theorem mulok {i j : Int} (h : i.natAbs.log2 + j.natAbs.log2 < ZM) : MulOk i j := Nat.lt_trans h (by unfold ZM; decide)
section
variable {x y : Rat} {st : List Cell} {Q : Vl → List Cell → Prop}
theorem den_pos (x : Rat) : ((x.den : Nat) : Int) ≠ 0 := by
  have := x.den_nz
  omega
theorem mul_nn (x y : Rat) : ((x.den : Nat) : Int) * ((y.den : Nat) : Int) ≠ 0 := Int.mul_ne_zero (den_pos x) (den_pos y)
theorem mk_nn {i j : Nat} {a b : Int} (ha : a.natAbs.log2 + 2 ≤ i) (hb : b.natAbs.log2 + 2 ≤ j) (h : i + j < ZM) : MulOk a b := mulok (by omega)
theorem dn (x : Rat) : ((x.den : Nat) : Int).natAbs.log2 + 2 ≤ zb x := by
  rw [Int.natAbs_natCast]
  exact zb_den x
theorem add_ok (hz : zb x + zb y < ZM) (h : Q (.d (fr (x + y))) st) : sp_add [.d (fr x), .d (fr y)] st Q := by
  unfold sp_add
  refine ⟨rfl, ?_⟩
  refine ⟨mk_nn (zb_num x) (dn y) hz, mk_nn (zb_num y) (dn x) (by omega), mk_nn (dn x) (dn y) hz, ?_⟩
  refine fraction_ok (mul_nn x y) (tk ?_)
  rw [← Int.natCast_mul, Rat.divInt_ofNat, ← Rat.add_def']
  exact h
theorem negative_ok (h : Q (.d (fr (-x))) st) : sp_negative [.d (fr x)] st Q := by
  unfold sp_negative
  refine ⟨rfl, lineN rfl, tk ?_⟩
  have e : fr (-x) = .tup [.int (-x.num), .int x.den] := by
    unfold fr
    rw [Rat.neg_num, Rat.neg_den]
  rw [e] at h
  exact h
theorem subtract_ok (hz : zb x + zb y < ZM) (h : Q (.d (fr (x - y))) st) : sp_subtract [.d (fr x), .d (fr y)] st Q := by
  unfold sp_subtract
  refine ⟨rfl, ?_⟩
  refine negative_ok ?_
  refine add_ok (by rw [zb_neg]; exact hz) (tk ?_)
  rw [← Rat.sub_eq_add_neg]
  exact h
theorem multiply_ok (hz : zb x + zb y < ZM) (h : Q (.d (fr (x * y))) st) : sp_multiply [.d (fr x), .d (fr y)] st Q := by
  unfold sp_multiply
  refine ⟨rfl, ?_⟩
  refine ⟨mk_nn (zb_num x) (zb_num y) hz, mk_nn (dn x) (dn y) hz, ?_⟩
  refine fraction_ok (mul_nn x y) (tk ?_)
  rw [← Int.natCast_mul, Rat.divInt_ofNat, ← Rat.mul_def']
  exact h
theorem num_nz {y : Rat} (hy : y ≠ 0) : y.num ≠ 0 := fun e => hy (Rat.num_eq_zero.mp e)
theorem divide_ok (hy : y ≠ 0) (hz : zb x + zb y < ZM) (h : Q (.d (fr (x / y))) st) : sp_divide [.d (fr x), .d (fr y)] st Q := by
  unfold sp_divide
  refine ⟨rfl, ?_⟩
  refine ⟨mk_nn (zb_num x) (dn y) hz, mk_nn (dn x) (zb_num y) hz, ?_⟩
  refine fraction_ok (Int.mul_ne_zero (den_pos x) (num_nz hy)) (tk ?_)
  have e : Rat.divInt (x.num * (y.den : Int)) ((x.den : Int) * y.num) = x / y := by
    rw [Rat.div_def]
    have e1 : y⁻¹ = Rat.divInt y.den y.num := by
      have := Rat.inv_divInt y.num y.den
      rw [Rat.num_divInt_den] at this
      exact this
    rw [e1]
    conv => rhs; rw [← Rat.num_divInt_den x]
    rw [Rat.divInt_mul_divInt]
  rw [e]
  exact h
def sgn (x : Rat) : Int := if 0 < x then 1 else if x < 0 then -1 else 0
theorem num_neg_iff (x : Rat) : x.num < 0 ↔ x < 0 := by
  have h := Rat.num_nonneg (q := x)
  rw [← Rat.not_le, ← h]
  omega
theorem num_pos_iff (x : Rat) : 0 < x.num ↔ 0 < x := by
  have h := num_neg_iff (-x)
  rw [Rat.neg_num] at h
  have : (0 < x) ↔ (-x < 0) := by grind
  rw [this, ← h]
  omega
theorem sign_ok (h : Q (.d (.int (sgn x))) st) : sp_sign [.d (fr x)] st Q := by
  unfold sp_sign
  refine ⟨rfl, trivial, ?_⟩
  show if (decide ((0 : Int) < x.num)) = true then _ else _
  unfold sgn at h
  by_cases h1 : 0 < x
  · rw [if_pos (decide_eq_true ((num_pos_iff x).mpr h1))]
    rw [if_pos h1] at h
    exact tk h
  · rw [if_neg (by simp only [decide_eq_true_eq]; exact fun z => h1 ((num_pos_iff x).mp z))]
    rw [if_neg h1] at h
    refine ⟨trivial, ?_⟩
    show if (decide (x.num < 0)) = true then _ else _
    by_cases h2 : x < 0
    · rw [if_pos (decide_eq_true ((num_neg_iff x).mpr h2))]
      rw [if_pos h2] at h
      exact tk h
    · rw [if_neg (by simp only [decide_eq_true_eq]; exact fun z => h2 ((num_neg_iff x).mp z))]
      rw [if_neg h2] at h
      exact tk h
theorem compare_ok (hz : zb x + zb y < ZM) (h : Q (.d (.int (sgn (x - y)))) st) : sp_compare [.d (fr x), .d (fr y)] st Q := by
  unfold sp_compare
  refine ⟨rfl, subtract_ok hz (sign_ok (tk h))⟩
theorem sgn_lt (x y : Rat) : sgn (x - y) < 0 ↔ x < y := by
  unfold sgn
  grind
theorem is_less_ok (hz : zb x + zb y < ZM) (h : Q (.d (.bl (decide (x < y)))) st) : sp_is_less [.d (fr x), .d (fr y)] st Q := by
  unfold sp_is_less
  refine ⟨rfl, compare_ok hz ⟨trivial, tk ?_⟩⟩
  have e : decide (sgn (x - y) < 0) = decide (x < y) := decide_eq_decide.mpr (sgn_lt x y)
  rw [← e] at h
  exact h
end
end PG

set_option maxRecDepth 100000
set_option maxHeartbeats 4000000
namespace PG
open PySem PySem.Spec PyProof.Rows L2 RT

theorem range_inv {i : Nat} {b : DS} {all : List Dt} {E : DEnds} (I : Nat → Int → M → Prop)
    (hs : ∀ n lo m (K : M → Prop), (∀ m', I n (lo + 1) m' → K m') → I (n + 1) lo m → b ⟨K, E.rt, E.nx, K⟩ ⟨m.sl.set i (some (.d (.int lo))), m.st⟩) (hd : ∀ lo m, I 0 lo m → E.nx m) :
    ∀ (n : Nat) (lo : Int) (m : M), I n lo m → dLoop (.nm i) b all none E (rangeD lo n) m
  | 0, lo, m, h => ⟨trivial, hd lo m h⟩
  | n + 1, lo, m, h => ⟨trivial, hs n lo m _ (fun m' h' => range_inv I hs hd n (lo + 1) m' h') h⟩

def eu : Nat → Nat → Nat → Nat
  | 0, x, _ => x
  | j + 1, x, y => if 0 < y then eu j y (x % y) else eu j x y

theorem atI_int {ns : List Int} {k : Int} (h0 : 0 ≤ k) (h1 : k < ns.length) : atI (ns.map Dt.int) k = some (.int (ns.getD k.toNat 0)) := by
  unfold atI ixN
  rw [if_pos h0, List.length_map, if_pos h1]
  show (ns.map Dt.int)[k.toNat]? = _
  have hk : k.toNat < ns.length := by omega
  rw [List.getElem?_map, List.getD_eq_getElem?_getD, List.getElem?_eq_getElem hk]
  rfl
theorem getD_mem {ns : List Int} {k : Nat} (h : k < ns.length) : ns.getD k 0 ∈ ns := by
  rw [List.getD_eq_getElem?_getD, List.getElem?_eq_getElem h]
  exact List.getElem_mem h
theorem ix_ints {ns : List Int} {k : Int} {P : Dt → Prop} (h0 : 0 ≤ k) (h1 : k < ns.length) (h : P (.int (ns.getD k.toNat 0))) : RT.rIx (.lst (ns.map .int)) (.int k) P := onO_mk (atI_int h0 h1) h
def Bits (ns : List Int) : Prop := ∀ z ∈ ns, Builtin.Int.intBits z ≤ 1048576
theorem cell_ok {ns : List Int} {k : Int} {st : List Cell} {Q : Vl → List Cell → Prop} (hb : Bits ns) (h0 : 0 ≤ k) (h : ∀ v : Int, v.natAbs.log2 ≤ 1048576 → Q (.d (.int v)) st) : sp__law_cell [.d (.lst (ns.map .int)), .d (.int k)] st Q := by
  unfold sp__law_cell
  refine ⟨rfl, trivial, ?_⟩
  show if (decide (k < ((ns.map Dt.int).length : Int))) = true then _ else _
  rw [List.length_map]
  by_cases hk : k < (ns.length : Int)
  · rw [if_pos (decide_eq_true hk)]
    refine ix_ints h0 hk (tk (h _ ?_))
    have := hb _ (getD_mem (ns := ns) (k := k.toNat) (by omega))
    unfold Builtin.Int.intBits at this
    split at this
    · rename_i e
      have e' : ns.getD k.toNat 0 = 0 := by simpa using e
      rw [e']
      simp
    · omega
  · rw [if_neg (by simp; omega)]
    exact tk (h 0 (by simp))
def Dg (ds : List Int) : Prop := ∀ d ∈ ds, 0 ≤ d ∧ d < 1000
theorem Dg.app {ds : List Int} (h : Dg ds) {x : Int} (h0 : 0 ≤ x) (h1 : x < 1000) : Dg (ds ++ [x]) := fun d hd => by
  rcases List.mem_append.mp hd with z | z
  · exact h d z
  · rw [List.mem_singleton] at z
    rw [z]
    exact ⟨h0, h1⟩
theorem fmod_bd (a : Int) {n : Int} (h : 0 < n) : 0 ≤ a.fmod n ∧ a.fmod n < n := ⟨Int.fmod_nonneg_of_pos a h, Int.fmod_lt_of_pos a h⟩
theorem map_app (ds : List Int) (x : Int) : ds.map Dt.int ++ [Dt.int x] = (ds ++ [x]).map Dt.int := by simp

theorem getElem_last {α : Type} (l : List α) (x : α) : (l ++ [x])[l.length]? = some x := by simp
theorem set_last {α : Type} (l : List α) (x y : α) : (l ++ [x]).set l.length y = l ++ [y] := by simp

theorem push_st {st : List Cell} {ds : List Int} {x : Int} : (st ++ [Cell.lst (ds.map Dt.int)]).set st.length (Cell.lst (ds.map Dt.int ++ [Dt.int x])) = st ++ [Cell.lst ((ds ++ [x]).map Dt.int)] := by
  rw [set_last, map_app]
theorem k1000 : (1000 : Int) ≠ 0 := by decide
theorem k997 : (997 : Int) ≠ 0 := by decide
theorem kMx : (2147483647 : Int) ≠ 0 := by decide
theorem small_lt {n : Nat} (h : n < 16777216) : n < sizeLine := by
  rw [sizeLine_eq]
  exact h

theorem seq_mid {a b : DS} {E : DEnds} {m : M} (P : M → Prop) (h1 : ∀ K : M → Prop, (∀ m', P m' → K m') → a ⟨K, E.rt, E.bk, E.ct⟩ m) (h2 : ∀ m', P m' → b E m') : dSeq a b E m := h1 _ h2
theorem log2_small {v : Int} {n : Nat} (h0 : 0 ≤ v) (h : v < 2 ^ n) (hn : 0 < n) : v.natAbs.log2 < n := by
  by_cases hz : v.natAbs = 0
  · rw [hz]
    simpa using hn
  · refine (Nat.log2_lt hz).mpr ?_
    have : ((v.natAbs : Nat) : Int) < ((2 ^ n : Nat) : Int) := by
      rw [Int.natAbs_of_nonneg h0]
      push_cast
      exact h
    exact_mod_cast this
end PG

set_option maxRecDepth 100000
set_option maxHeartbeats 4000000
namespace PG
open PySem PySem.Spec PyProof.Rows L2 RT
theorem onJ_mk {o : Option Nat} {P : Nat → Prop} {j : Nat} (e : o = some j) (h : P j) : onJ o P := by
  subst e
  exact h
theorem onV_d {m : M} {x : Dt} {P : Dt → Prop} (h : P x) : onV m (.d x) P := h
theorem rIx_mk {xs : List Dt} {k : Int} {z : Dt} {P : Dt → Prop} (e : atI xs k = some z) (h : P z) : RT.rIx (.lst xs) (.int k) P := onO_mk e h
def Bx (ds : List Int) (i : Nat) : Cell := .lst [.lst (ds.map .int), .int i]
theorem onV_c {sl : List (Option Vl)} {st : List Cell} {k : Nat} {xs : List Dt} {P : Dt → Prop} (e : st[k]? = some (.lst xs)) (h : P (.lst xs)) : onV ⟨sl, st⟩ (.c k) P := by
  unfold onV view
  simp only [e]
  exact h
theorem zb_small {n d : Int} {b : Nat} (hd : 0 < d) (h1 : n.natAbs < 2 ^ b) (h2 : d.natAbs < 2 ^ b) (hb : 0 < b) : zb (Rat.divInt n d) ≤ b + 2 := by
  have h := zb_divInt (n := n) (d := d) (by omega)
  have l : ∀ z : Nat, z < 2 ^ b → z.log2 ≤ b := fun z hz => by
    by_cases e : z = 0
    · rw [e]
      simp
    · have := (Nat.log2_lt e).mpr hz
      omega
  have := l _ h1
  have := l _ h2
  omega
theorem eqD_int {a b : Int} : eqD (.int a) (.int b) = decide (a = b) := by
  show (a == b) = _
  rw [Bool.eq_iff_iff]
  simp
end PG

set_option maxRecDepth 100000
set_option maxHeartbeats 4000000
namespace PG
open PySem PySem.Spec PyProof.Rows L2 RT
section
variable {x y : Rat} {st : List Cell} {Q : Vl → List Cell → Prop}
theorem less_iff (x y : Rat) : x.num * y.den < y.num * x.den ↔ x < y := (Rat.lt_iff x y).symm
theorem less_ok (hz : zb x + zb y < ZM) (h : Q (.d (.bl (decide (x < y)))) st) : sp__law_less [.d (fr x), .d (fr y)] st Q := by
  unfold sp__law_less
  refine ⟨rfl, mk_nn (zb_num x) (dn y) hz, mk_nn (zb_num y) (dn x) (by omega), trivial, tk ?_⟩
  have e : decide (x.num * y.den < y.num * x.den) = decide (x < y) := decide_eq_decide.mpr (less_iff x y)
  rw [← e] at h
  exact h
end
theorem zm {a b : Nat} (h : a + b < 60000000) : a + b < ZM := h

theorem add_val (x y : Rat) : x + y = Rat.divInt (x.num * y.den + y.num * x.den) (x.den * y.den) := by
  rw [← Int.natCast_mul, Rat.divInt_ofNat, ← Rat.add_def']
theorem mul_val (x y : Rat) : x * y = Rat.divInt (x.num * y.num) (x.den * y.den) := by
  rw [← Int.natCast_mul, Rat.divInt_ofNat, ← Rat.mul_def']
theorem guard_st {c : DT} {t b : DS} {E : DEnds} {m : M} (m' : M) (hc : ∀ K : Bool → M → Prop, K false m' → c m K) (h : b E m') : dSeq (dIfS c t dNext) b E m := hc _ h
theorem div_val (x : Rat) {y : Rat} (hy : y ≠ 0) : x / y = Rat.divInt (x.num * y.den) (x.den * y.num) := by
  rw [Rat.div_def]
  have e1 : y⁻¹ = Rat.divInt y.den y.num := by
    have := Rat.inv_divInt y.num y.den
    rw [Rat.num_divInt_den] at this
    exact this
  rw [e1]
  conv => lhs; rw [← Rat.num_divInt_den x]
  rw [Rat.divInt_mul_divInt]
end PG

set_option maxRecDepth 100000
set_option maxHeartbeats 4000000
namespace PG
open PySem PySem.Spec PyProof.Rows L2 RT

mutual
theorem eqv_self : ∀ x : Dt, PyData.eqv (toPy x) (toPy x) = true
  | .non => by simp [toPy, PyData.eqv]
  | .bl b => by simp [toPy, PyData.eqv]
  | .int i => by simp [toPy, PyData.eqv]
  | .str s => by simp [toPy, PyData.eqv]
  | .tup ds => by
    simp only [toPy, PyData.eqv]
    exact eqvs_self ds
  | .lst ds => by
    simp only [toPy, PyData.eqv]
    exact eqvs_self ds
theorem eqvs_self : ∀ ds : List Dt, PyData.eqvAll (toPys ds) (toPys ds) = true
  | [] => by simp [toPys, PyData.eqvAll]
  | d :: ds => by
    simp only [toPys, PyData.eqvAll, eqv_self d, eqvs_self ds, Bool.and_self]
end
theorem eqD_self (x : Dt) : eqD x x = true := eqv_self x

mutual
def nb : Dt → Bool
  | .bl _ => false
  | .tup ds => nbs ds
  | .lst ds => nbs ds
  | .non => true
  | .int _ => true
  | .str _ => true
def nbs : List Dt → Bool
  | [] => true
  | d :: ds => nb d && nbs ds
end
mutual
theorem eqv_eq : ∀ x y : Dt, nb x = true → nb y = true → PyData.eqv (toPy x) (toPy y) = true → x = y
  | .bl _, _, h, _, _ => by simp [nb] at h
  | _, .bl _, _, h, _ => by simp [nb] at h
  | .non, .non, _, _, _ => rfl
  | .int i, .int j, _, _, h => by
    simp [toPy, PyData.eqv] at h
    rw [h]
  | .str i, .str j, _, _, h => by
    simp [toPy, PyData.eqv] at h
    rw [h]
  | .tup xs, .tup ys, h1, h2, h => by
    simp only [nb] at h1 h2
    simp only [toPy, PyData.eqv] at h
    rw [eqvs_eq xs ys h1 h2 h]
  | .lst xs, .lst ys, h1, h2, h => by
    simp only [nb] at h1 h2
    simp only [toPy, PyData.eqv] at h
    rw [eqvs_eq xs ys h1 h2 h]
  | .non, .int _, _, _, h | .non, .str _, _, _, h | .non, .tup _, _, _, h | .non, .lst _, _, _, h => by simp [toPy, PyData.eqv] at h
  | .int _, .non, _, _, h | .int _, .str _, _, _, h | .int _, .tup _, _, _, h | .int _, .lst _, _, _, h => by simp [toPy, PyData.eqv] at h
  | .str _, .non, _, _, h | .str _, .int _, _, _, h | .str _, .tup _, _, _, h | .str _, .lst _, _, _, h => by simp [toPy, PyData.eqv] at h
  | .tup _, .non, _, _, h | .tup _, .int _, _, _, h | .tup _, .str _, _, _, h | .tup _, .lst _, _, _, h => by simp [toPy, PyData.eqv] at h
  | .lst _, .non, _, _, h | .lst _, .int _, _, _, h | .lst _, .str _, _, _, h | .lst _, .tup _, _, _, h => by simp [toPy, PyData.eqv] at h
theorem eqvs_eq : ∀ xs ys : List Dt, nbs xs = true → nbs ys = true → PyData.eqvAll (toPys xs) (toPys ys) = true → xs = ys
  | [], [], _, _, _ => rfl
  | [], _ :: _, _, _, h => by simp [toPys, PyData.eqvAll] at h
  | _ :: _, [], _, _, h => by simp [toPys, PyData.eqvAll] at h
  | x :: xs, y :: ys, h1, h2, h => by
    simp only [nbs, Bool.and_eq_true] at h1 h2
    simp only [toPys, PyData.eqvAll, Bool.and_eq_true] at h
    rw [eqv_eq x y h1.1 h2.1 h.1, eqvs_eq xs ys h1.2 h2.2 h.2]
end
theorem eqD_iff {x y : Dt} (h1 : nb x = true) (h2 : nb y = true) : eqD x y = true ↔ x = y := ⟨eqv_eq x y h1 h2, fun e => e ▸ eqD_self x⟩

def Sh (n : Nat) (d : Dt) : Prop := (toPy d).canLay0 = true ∧ (toPy d).depth ≤ n
theorem sh_ok {n : Nat} {d : Dt} (h : Sh n d) (hn : Nat.ble n 64 = true := by rfl) : shD d := by
  unfold shD SeqAt.shaped
  rw [h.1, decide_eq_true (Nat.le_trans h.2 (Nat.le_of_ble_eq_true hn))]
  rfl
theorem canLays : ∀ {ds : List Dt}, (∀ d ∈ ds, (toPy d).canLay0 = true) → PyData.canLayAll0 (toPys ds) = true
  | [], _ => by simp [toPys, PyData.canLayAll0]
  | d :: ds, h => by
    simp only [toPys, PyData.canLayAll0, h d List.mem_cons_self, canLays fun x hx => h x (List.mem_cons_of_mem _ hx), Bool.and_self]
theorem depths : ∀ {n : Nat} {ds : List Dt}, (∀ d ∈ ds, (toPy d).depth ≤ n) → PyData.depthAll (toPys ds) ≤ n
  | n, [], _ => by simp [toPys, PyData.depthAll]
  | n, d :: ds, h => by
    have h1 := h d List.mem_cons_self
    have h2 := depths (n := n) (ds := ds) fun x hx => h x (List.mem_cons_of_mem _ hx)
    simp only [toPys, PyData.depthAll]
    omega
theorem sh_tup {n : Nat} {ds : List Dt} (h : ∀ d ∈ ds, Sh n d) : Sh (n + 1) (.tup ds) := by
  constructor
  · simp only [toPy, PyData.canLay0]
    exact canLays fun d hd => (h d hd).1
  · simp only [toPy, PyData.depth]
    have := depths (n := n) (ds := ds) fun d hd => (h d hd).2
    omega
theorem sh_lst {n : Nat} {ds : List Dt} (h : ∀ d ∈ ds, Sh n d) : Sh (n + 1) (.lst ds) := by
  constructor
  · simp only [toPy, PyData.canLay0]
    exact canLays fun d hd => (h d hd).1
  · simp only [toPy, PyData.depth]
    have := depths (n := n) (ds := ds) fun d hd => (h d hd).2
    omega
theorem sh_int {i : Int} {n : Nat} : Sh n (.int i) := ⟨rfl, Nat.zero_le _⟩
theorem sh_non {n : Nat} : Sh n .non := ⟨rfl, Nat.zero_le _⟩
theorem sh_str {s : Str} {n : Nat} (h : PyData.canLay0 (.str s) = true) : Sh n (.str s) := ⟨by simp only [toPy]; exact h, by simp [toPy, PyData.depth]⟩
theorem all_nil {P : Dt → Prop} : ∀ d ∈ ([] : List Dt), P d := fun _ h => nomatch h
theorem all_cons {P : Dt → Prop} {x : Dt} {r : List Dt} (h1 : P x) (h2 : ∀ d ∈ r, P d) : ∀ d ∈ x :: r, P d := fun d hd => by
  rcases List.mem_cons.mp hd with e | e
  · rw [e]
    exact h1
  · exact h2 d e
theorem all_map {α : Type} {P : Dt → Prop} {f : α → Dt} {l : List α} (h : ∀ a ∈ l, P (f a)) : ∀ d ∈ l.map f, P d := fun d hd => by
  obtain ⟨a, ha, rfl⟩ := List.mem_map.mp hd
  exact h a ha
theorem sh_fr {q : Rat} : Sh 1 (fr q) := sh_tup (all_cons sh_int (all_cons sh_int all_nil))
def ofr : Option Rat → Dt
  | none => .non
  | some q => fr q
theorem sh_ofr {o : Option Rat} : Sh 1 (ofr o) := by
  cases o with
  | none => exact sh_non
  | some q => exact sh_fr
theorem nb_fr (q : Rat) : nb (fr q) = true := rfl
theorem fr_inj {x y : Rat} : fr x = fr y ↔ x = y := by
  constructor
  · intro h
    unfold fr at h
    injection h with h
    injection h with h1 h
    injection h with h2 _
    injection h1 with h1
    injection h2 with h2
    exact Rat.ext h1 (by omega)
  · intro h
    rw [h]

section
variable {x y : Rat} {st : List Cell} {Q : Vl → List Cell → Prop}
theorem zz (h : zb x + zb y ≤ 200) : zb x + zb y < ZM := zm (by omega)
end
section
variable {ds : List Int} {i k : Nat} {st : List Cell} {Q : Vl → List Cell → Prop}
end
end PG

set_option maxRecDepth 100000
set_option maxHeartbeats 4000000
namespace PG
open PySem PySem.Spec PyProof.Rows L2 RT
theorem each_inv {i : Nat} {b : DS} {all : List Dt} {lk : Option Nat} {E : DEnds} {α : Type} (f : α → Dt) (I : List α → M → Prop) (hlk : ∀ r m, I r m → lockOk lk all m)
    (hs : ∀ x r m (K : M → Prop), (∀ m', I r m' → K m') → I (x :: r) m → b ⟨K, E.rt, E.nx, K⟩ ⟨m.sl.set i (some (.d (f x))), m.st⟩) (hd : ∀ m, I [] m → E.nx m) :
    ∀ (xs : List α) (m : M), I xs m → dLoop (.nm i) b all lk E (xs.map f) m
  | [], m, h => ⟨hlk _ m h, hd m h⟩
  | x :: r, m, h => ⟨hlk _ m h, hs x r m _ (fun m' h' => each_inv f I hlk hs hd r m' h') h⟩

def bstep (lt : Rat → Rat → Prop) [DecidableRel lt] (b : Option Rat) (v : Option Rat) : Option Rat := match v, b with
  | none, b => b
  | some x, none => some x
  | some x, some y => if lt x y then some x else some y
def least (xs : List (Option Rat)) : Option Rat := xs.foldl (bstep fun x y => x < y) none
def greatest (xs : List (Option Rat)) : Option Rat := xs.foldl (bstep fun x y => y < x) none
def Zs (n : Nat) (xs : List (Option Rat)) : Prop := ∀ q, some q ∈ xs → zb q ≤ n
theorem bstep_z {lt : Rat → Rat → Prop} [DecidableRel lt] {n : Nat} {b v : Option Rat} (hb : ∀ q, b = some q → zb q ≤ n) (hv : ∀ q, v = some q → zb q ≤ n) : ∀ q, bstep lt b v = some q → zb q ≤ n := fun q e => by
  cases v with
  | none => exact hb q e
  | some x =>
    cases b with
    | none => exact hv q e
    | some y =>
      unfold bstep at e
      simp only at e
      split at e
      · exact hv q e
      · exact hb q e
section
variable {st : List Cell} {Q : Vl → List Cell → Prop}
theorem best_ok {n : Nat} {xs : List (Option Rat)} (hz : Zs n xs) (hn : n + n < ZM) (h : Q (.d (ofr (least xs))) st) : sp_least_of [.d (.lst (xs.map ofr))] st Q := by
  unfold sp_least_of
  refine ⟨rfl, ?_⟩
  refine each_inv (lk := none) ofr (fun r m => ∃ b z, m = ⟨[some (.d (.lst (xs.map ofr))), some (.d (ofr b)), z], st⟩ ∧ (∀ q, b = some q → zb q ≤ n) ∧ Zs n r ∧ r.foldl (bstep fun x y => x < y) b = least xs) (fun _ _ _ => trivial) ?_ ?_ xs _ ⟨none, none, rfl, (fun q e => nomatch e), hz, rfl⟩
  · rintro x r _ K hK ⟨b, z, rfl, hb, hr, e⟩
    have hx : ∀ q, x = some q → zb q ≤ n := fun q e => hr q (e ▸ List.mem_cons_self)
    have hr' : Zs n r := fun q hq => hr q (List.mem_cons_of_mem _ hq)
    have go : K ⟨[some (.d (.lst (xs.map ofr))), some (.d (ofr (bstep (fun x y => x < y) b x))), some (.d (ofr x))], st⟩ := hK _ ⟨_, _, rfl, bstep_z hb hx, hr', e⟩
    cases x with
    | none => exact go
    | some x =>
      cases b with
      | none => exact go
      | some b =>
        have zx := hx x rfl
        have zb' := hb b rfl
        refine is_less_ok (x := x) (y := b) (Nat.lt_of_le_of_lt (Nat.add_le_add zx zb') hn) ?_
        show if (decide (x < b)) = true then _ else _
        unfold bstep at go
        simp only at go
        by_cases hlt : x < b
        · rw [if_pos (decide_eq_true hlt)]
          rw [if_pos hlt] at go
          exact go
        · rw [if_neg (by simpa using hlt)]
          rw [if_neg hlt] at go
          exact go
  · rintro _ ⟨b, z, rfl, _, _, e⟩
    have e' : b = least xs := e
    rw [← e'] at h
    exact tk h
theorem sgn_pos (x : Rat) : (0 < sgn x) ↔ 0 < x := by
  unfold sgn
  grind
end
end PG

set_option maxRecDepth 100000
set_option maxHeartbeats 4000000
namespace PG
open PySem PySem.Spec PyProof.Rows L2 RT

def In (D B : Nat) (q : Rat) : Prop := ∃ n : Int, q * (D : Rat) = (n : Rat) ∧ n.natAbs ≤ B * D
theorem in_add {D B C : Nat} {x y : Rat} : In D B x → In D C y → In D (B + C) (x + y) := fun ⟨n, h1, h2⟩ ⟨m, h3, h4⟩ => ⟨n + m, by rw [Rat.add_mul, h1, h3, ← Rat.intCast_add], by
  rw [Nat.add_mul]
  have := Int.natAbs_add_le n m
  omega⟩
theorem in_neg {D B : Nat} {x : Rat} : In D B x → In D B (-x) := fun ⟨n, h1, h2⟩ => ⟨-n, by rw [Rat.neg_mul, h1, Rat.intCast_neg], by rw [Int.natAbs_neg]; exact h2⟩
theorem in_sub {D B C : Nat} {x y : Rat} (h1 : In D B x) (h2 : In D C y) : In D (B + C) (x - y) := by
  rw [Rat.sub_eq_add_neg]
  exact in_add h1 (in_neg h2)
theorem in_mul {D B E C : Nat} {x y : Rat} : In D B x → In E C y → In (D * E) (B * C) (x * y) := fun ⟨n, h1, h2⟩ ⟨m, h3, h4⟩ => ⟨n * m, by
  rw [Rat.intCast_mul, ← h1, ← h3, Rat.natCast_mul]
  grind, by
  rw [Int.natAbs_mul, show B * C * (D * E) = (B * D) * (C * E) by simp only [Nat.mul_assoc, Nat.mul_left_comm, Nat.mul_comm]]
  exact Nat.mul_le_mul h2 h4⟩
theorem in_up {D B k : Nat} {x : Rat} (hk : 0 < k) : In D B x → In (D * k) B x := fun ⟨n, h1, h2⟩ => ⟨n * k, by
  rw [Rat.intCast_mul, ← h1, Rat.natCast_mul]
  simp only [Rat.intCast_natCast]
  grind, by
  rw [Int.natAbs_mul, Int.natAbs_natCast, ← Nat.mul_assoc]
  exact Nat.mul_le_mul_right _ h2⟩
theorem in_le {D B C : Nat} {x : Rat} (h : B ≤ C) : In D B x → In D C x := fun ⟨n, h1, h2⟩ => ⟨n, h1, Nat.le_trans h2 (Nat.mul_le_mul_right _ h)⟩
theorem in_val {D B : Nat} {x : Rat} (hD : 0 < D) : In D B x → ∃ n : Int, x = Rat.divInt n D ∧ n.natAbs ≤ B * D := fun ⟨n, h1, h2⟩ => ⟨n, by
  rw [Rat.divInt_eq_div]
  have : (D : Rat) ≠ 0 := by
    have : D ≠ 0 := by omega
    simpa using this
  simp only [Rat.intCast_natCast]
  rw [← h1]
  grind, h2⟩
theorem in_zb {D B b : Nat} {x : Rat} (hD : 0 < D) (h : In D B x) (h1 : B * D < 2 ^ b) (h2 : D < 2 ^ b) (hb : 0 < b) : zb x ≤ b + 2 := by
  obtain ⟨n, e, hn⟩ := in_val hD h
  rw [e]
  exact zb_small (by omega) (by omega) (by omega) hb
theorem in_div {D B : Nat} {n : Int} {d : Nat} (hd : 0 < d) (hD : ∃ k, D = d * k) (h : n.natAbs ≤ B * d) : In D B (Rat.divInt n d) := by
  obtain ⟨k, rfl⟩ := hD
  refine ⟨n * k, ?_, ?_⟩
  · rw [Rat.divInt_eq_div, Rat.natCast_mul, Rat.intCast_mul]
    simp only [Rat.intCast_natCast]
    have : (d : Rat) ≠ 0 := by
      have : d ≠ 0 := by omega
      simpa using this
    grind
  · rw [Int.natAbs_mul, Int.natAbs_natCast, ← Nat.mul_assoc]
    exact Nat.mul_le_mul_right _ h
end PG

set_option maxRecDepth 100000
set_option maxHeartbeats 4000000
namespace PG
open PySem PySem.Spec PyProof.Rows L2 RT
theorem guard_end {c : DT} {t : DS} {E : DEnds} {m : M} (P : M → Prop) (hc : ∀ K : Bool → M → Prop, (∀ m', P m' → K false m') → c m K) (h : ∀ m', P m' → E.nx m') : dIfS c t dNext E m := hc _ h
theorem ifs_t {c : DT} {t u : DS} {E : DEnds} {m : M} (m' : M) (hc : ∀ K : Bool → M → Prop, K true m' → c m K) (h : t E m') : dIfS c t u E m := hc _ (by rw [if_pos rfl]; exact h)
end PG

set_option maxRecDepth 100000
set_option maxHeartbeats 4000000
namespace PG
open PySem PySem.Spec PyProof.Rows L2 RT
def Pn (q : Rat) : Prop := ∃ (a : Int) (z : Nat), q = Rat.divInt a z ∧ a.natAbs ≤ 6 ∧ 0 < z ∧ z ≤ 4
theorem dvd12 {z : Nat} (h : 0 < z) (h4 : z ≤ 4) : ∃ k, 12 = z * k := by
  have : z = 1 ∨ z = 2 ∨ z = 3 ∨ z = 4 := by omega
  rcases this with rfl | rfl | rfl | rfl
  · exact ⟨12, rfl⟩
  · exact ⟨6, rfl⟩
  · exact ⟨4, rfl⟩
  · exact ⟨3, rfl⟩
theorem Pn.in_ {q : Rat} : Pn q → In 12 6 q := fun ⟨a, z, e, h1, h2, h3⟩ => by
  rw [e]
  exact in_div h2 (dvd12 h2 h3) (Nat.le_trans h1 (Nat.le_mul_of_pos_right _ h2))
theorem Pn.zb {q : Rat} (h : Pn q) : zb q ≤ 9 := in_zb (b := 7) (by decide) h.in_ (by decide) (by decide) (by decide)
theorem dvd60 {z : Nat} (h : 0 < z) (h4 : z ≤ 6) : ∃ k, 60 = z * k := by
  have : z = 1 ∨ z = 2 ∨ z = 3 ∨ z = 4 ∨ z = 5 ∨ z = 6 := by omega
  rcases this with rfl | rfl | rfl | rfl | rfl | rfl
  · exact ⟨60, rfl⟩
  · exact ⟨30, rfl⟩
  · exact ⟨20, rfl⟩
  · exact ⟨15, rfl⟩
  · exact ⟨12, rfl⟩
  · exact ⟨10, rfl⟩
theorem inv_divInt (a z : Int) : (Rat.divInt a z)⁻¹ = Rat.divInt z a := Rat.inv_divInt a z
theorem Pn.inv {q : Rat} (hq : q ≠ 0) : Pn q → In 60 6 q⁻¹ := fun ⟨a, z, e, h1, h2, h3⟩ => by
  subst e
  have ha : a ≠ 0 := fun e => hq (by rw [e, Rat.zero_divInt])
  rw [inv_divInt]
  rcases Int.lt_or_gt_of_ne ha with h | h
  · rw [← Rat.neg_divInt_neg, show -a = ((a.natAbs : Nat) : Int) by omega]
    exact in_div (by omega) (dvd60 (by omega) h1) (by rw [Int.natAbs_neg, Int.natAbs_natCast]; omega)
  · rw [show a = ((a.natAbs : Nat) : Int) by omega]
    exact in_div (by omega) (dvd60 (by omega) h1) (by rw [Int.natAbs_natCast]; omega)
section
variable {ds : List Int} {i k : Nat} {st : List Cell} {Q : Vl → List Cell → Prop}
end

inductive El where
  | gap (g : Rat) | lens (p c : Rat) | prism (d : Rat) | afocal (m : Rat) | stop (lo hi : Option Rat)
def elD : El → Dt
  | .gap g => .tup [.str ("gap" : Str), fr g]
  | .lens p c => .tup [.str ("lens" : Str), fr p, fr c]
  | .prism d => .tup [.str ("prism" : Str), fr d]
  | .afocal m => .tup [.str ("afocal" : Str), fr m]
  | .stop lo hi => .tup [.str ("stop" : Str), ofr lo, ofr hi]
def ElIn : El → Prop
  | .gap g => Pn g
  | .lens p c => Pn p ∧ Pn c
  | .prism d => Pn d
  | .afocal m => Pn m ∧ m ≠ 0
  | .stop lo hi => (∀ q, lo = some q → In 12 12 q) ∧ ∀ q, hi = some q → In 12 12 q
theorem pn_zero : Pn 0 := ⟨0, 1, by decide, by decide, by decide, by decide⟩
section
variable {ds : List Int} {i k : Nat} {st : List Cell} {Q : Vl → List Cell → Prop}
end
end PG

set_option maxRecDepth 100000
set_option maxHeartbeats 4000000
namespace PG
open PySem PySem.Spec PyProof.Rows L2 RT
section
variable {ds : List Int} {i k : Nat} {st : List Cell} {Q : Vl → List Cell → Prop}
end

abbrev Ray := Rat × Rat
def rayD (r : Ray) : Dt := .tup [fr r.1, fr r.2]
def behind : El → Ray → Ray
  | .gap g, r => (r.1 + g * r.2, r.2)
  | .lens p c, r => (r.1, r.2 - p * (r.1 - c))
  | .prism d, r => (r.1, r.2 + d)
  | .afocal m, r => (m * r.1, r.2 * m⁻¹)
  | .stop _ _, r => r
def Rb (j : Nat) (r : Ray) : Prop := In (12 * 60 ^ j) (6 * 13 ^ j) r.1 ∧ In (12 * 60 ^ j) (6 * 13 ^ j) r.2
theorem in_pn {j : Nat} {q : Rat} (h : Pn q) : In (12 * 60 ^ j) (6 * 13 ^ j) q := in_le (Nat.le_mul_of_pos_right _ (Nat.pow_pos (by decide))) (in_up (Nat.pow_pos (by decide)) h.in_)
theorem in_st {j D B : Nat} {q : Rat} (h : In D B q) (hD : ∃ k, 0 < k ∧ 12 * 60 ^ (j + 1) = D * k) (hB : B ≤ 6 * 13 ^ (j + 1)) : In (12 * 60 ^ (j + 1)) (6 * 13 ^ (j + 1)) q := by
  obtain ⟨k, hk, e⟩ := hD
  rw [e]
  exact in_le hB (in_up hk h)
theorem rb_behind {j : Nat} {e : El} {r : Ray} (he : ElIn e) (hr : Rb j r) : Rb (j + 1) (behind e r) := by
  have p13 : 1 ≤ 13 ^ j := Nat.pow_pos (by decide)
  have e13 : 13 ^ (j + 1) = 13 * 13 ^ j := by rw [Nat.pow_succ, Nat.mul_comm]
  have d1 : ∃ k, 0 < k ∧ 12 * 60 ^ (j + 1) = (12 * 60 ^ j) * k := ⟨60, by decide, by rw [Nat.pow_succ]; omega⟩
  have d12 : ∃ k, 0 < k ∧ 12 * 60 ^ (j + 1) = (12 * (12 * 60 ^ j)) * k := ⟨5, by decide, by rw [Nat.pow_succ]; omega⟩
  have d60 : ∃ k, 0 < k ∧ 12 * 60 ^ (j + 1) = ((12 * 60 ^ j) * 60) * k := ⟨1, by decide, by rw [Nat.pow_succ]; omega⟩
  have r1 := in_st (j := j) hr.1 d1 (by omega)
  have r2 := in_st (j := j) hr.2 d1 (by omega)
  have u12 : ∀ {B : Nat} {q : Rat}, In (12 * 60 ^ j) B q → In (12 * (12 * 60 ^ j)) B q := fun h => by
    rw [Nat.mul_comm]
    exact in_up (by decide) h
  cases e with
  | gap g => exact ⟨in_st (j := j) (in_add (u12 hr.1) (in_mul (Pn.in_ he) hr.2)) d12 (by omega), r2⟩
  | lens p c => exact ⟨r1, in_st (j := j) (in_sub (u12 hr.2) (in_mul (Pn.in_ he.1) (in_sub hr.1 (in_pn (j := j) he.2)))) d12 (by omega)⟩
  | prism d => exact ⟨r1, in_st (j := j) (in_add hr.2 (in_pn (j := j) he)) d1 (by omega)⟩
  | afocal m => exact ⟨in_st (j := j) (in_mul (Pn.in_ he.1) hr.1) d12 (by omega), in_st (j := j) (in_mul hr.2 (Pn.inv he.2 he.1)) d60 (by omega)⟩
  | stop lo hi => exact ⟨r1, r2⟩
theorem eqS (a b : Str) : eqD (.str a) (.str b) = decide (a = b) := by
  show (a == b) = _
  rw [Bool.eq_iff_iff]
  simp
theorem shS {s : Str} (h : PyData.canLay0 (.str s) = true) : shD (.str s) := sh_ok (n := 0) (sh_str h)
theorem s_gap : shD (.str ("gap" : Str)) := shS (by decide +kernel)
theorem s_lens : shD (.str ("lens" : Str)) := shS (by decide +kernel)
theorem s_prism : shD (.str ("prism" : Str)) := shS (by decide +kernel)
theorem s_afocal : shD (.str ("afocal" : Str)) := shS (by decide +kernel)
theorem s_stop : shD (.str ("stop" : Str)) := shS (by decide +kernel)
theorem str_ne {a b : Str} {A B : Prop} (h : decide (a = b) = false) (hB : B) : if eqD (.str a) (.str b) = true then A else B := by
  rw [eqS, h]
  exact hB
theorem str_eq {a : Str} {A B : Prop} (hA : A) : if eqD (.str a) (.str a) = true then A else B := by
  rw [eqD_self]
  exact hA
theorem ne_lg : decide (("lens" : Str) = "gap") = false := by decide +kernel
theorem ne_pg : decide (("prism" : Str) = "gap") = false := by decide +kernel
theorem ne_ag : decide (("afocal" : Str) = "gap") = false := by decide +kernel
theorem ne_sg : decide (("stop" : Str) = "gap") = false := by decide +kernel
theorem ne_pl : decide (("prism" : Str) = "lens") = false := by decide +kernel
theorem ne_al : decide (("afocal" : Str) = "lens") = false := by decide +kernel
theorem ne_sl : decide (("stop" : Str) = "lens") = false := by decide +kernel
theorem ne_ap : decide (("afocal" : Str) = "prism") = false := by decide +kernel
theorem ne_sp : decide (("stop" : Str) = "prism") = false := by decide +kernel
theorem ne_sa : decide (("stop" : Str) = "afocal") = false := by decide +kernel
theorem ne_gs : decide (("gap" : Str) = "stop") = false := by decide +kernel
theorem ne_ls : decide (("lens" : Str) = "stop") = false := by decide +kernel
theorem ne_ps : decide (("prism" : Str) = "stop") = false := by decide +kernel
theorem ne_as : decide (("afocal" : Str) = "stop") = false := by decide +kernel
section
variable {st : List Cell} {Q : Vl → List Cell → Prop}
theorem zb_inv {m : Rat} : zb m⁻¹ ≤ zb m := by
  have h : m⁻¹ = Rat.divInt m.den m.num := by
    conv => lhs; rw [← Rat.num_divInt_den m]
    rw [inv_divInt]
  by_cases hm : m = 0
  · rw [hm, Rat.inv_zero]
    exact Nat.le_refl _
  · rw [h]
    have := zb_divInt (n := (m.den : Int)) (num_nz hm)
    rw [Int.natAbs_natCast] at this
    unfold zb at this ⊢
    omega
def Zo (n : Nat) (o : Option Rat) : Prop := ∀ q, o = some q → zb q ≤ n
theorem ElIn.zo {lo hi : Option Rat} (h : ElIn (.stop lo hi)) : Zo 10 lo ∧ Zo 10 hi := ⟨fun q e => in_zb (b := 8) (by decide) (h.1 q e) (by decide) (by decide) (by decide), fun q e => in_zb (b := 8) (by decide) (h.2 q e) (by decide) (by decide) (by decide)⟩
def ElZ (n : Nat) : El → Prop
  | .gap g => zb g ≤ n
  | .lens p c => zb p ≤ n ∧ zb c ≤ n
  | .prism d => zb d ≤ n
  | .afocal m => zb m ≤ n ∧ m ≠ 0
  | .stop lo hi => Zo n lo ∧ Zo n hi
theorem ElIn.z {e : El} (h : ElIn e) : ElZ 10 e := by
  cases e with
  | gap g => exact Nat.le_trans (Pn.zb h) (by decide)
  | lens p c => exact ⟨Nat.le_trans (Pn.zb h.1) (by decide), Nat.le_trans (Pn.zb h.2) (by decide)⟩
  | prism d => exact Nat.le_trans (Pn.zb h) (by decide)
  | afocal m => exact ⟨Nat.le_trans (Pn.zb h.1) (by decide), h.2⟩
  | stop lo hi => exact ElIn.zo h
end
end PG

set_option maxRecDepth 100000
set_option maxHeartbeats 4000000
namespace PG
open PySem PySem.Spec PyProof.Rows L2 RT
theorem atI_map {α : Type} {f : α → Dt} {xs : List α} {k : Nat} {x : α} (h : xs[k]? = some x) : atI (xs.map f) (k : Int) = some (f x) := by
  have hk : k < xs.length := (List.getElem?_eq_some_iff.mp h).1
  unfold atI ixN
  rw [if_pos (by omega), List.length_map, if_pos (by omega)]
  show (xs.map f)[((k : Int)).toNat]? = _
  rw [Int.toNat_natCast, List.getElem?_map, h]
  rfl
theorem enum_inv {α : Type} {i j : Nat} {f : α → Dt} {b : DS} {all : List Dt} {E : DEnds} (I : Nat → List α → M → Prop)
    (hs : ∀ k x r m (K : M → Prop), (∀ m', I (k + 1) r m' → K m') → I k (x :: r) m → b ⟨K, E.rt, E.nx, K⟩ ⟨(m.sl.set i (some (.d (.int k)))).set j (some (.d (f x))), m.st⟩) (hd : ∀ k m, I k [] m → E.nx m) :
    ∀ (xs : List α) (k : Nat) (m : M), I k xs m → dLoop (.tp [i, j]) b all none E (enumD k (xs.map f)) m
  | [], k, m, h => ⟨trivial, hd k m h⟩
  | x :: r, k, m, h => ⟨trivial, rfl, hs k x r m _ (fun m' h' => enum_inv I hs hd r (k + 1) m' h') h⟩

def onat : Option Nat → Dt
  | none => .non
  | some k => .int k
structure Gr (n : Nat) (es : List El) (r0 : Ray) (R : Nat → Ray → Prop) : Prop where
  st : R 0 r0
  step : ∀ j e r, j < es.length → e ∈ es → R j r → R (j + 1) (behind e r)
  z : ∀ j r, j ≤ es.length → R j r → zb r.1 ≤ n ∧ zb r.2 ≤ n
theorem fz_st {st : List Cell} {c d : Cell} : ((st ++ [c]).set st.length d).take st.length = st := by
  rw [set_last, List.take_left]
section
variable {st : List Cell} {Q : Vl → List Cell → Prop} {es : List El} {r0 : Ray} {R : Nat → Ray → Prop} {n : Nat}
end
end PG

set_option maxRecDepth 100000
set_option maxHeartbeats 4000000
namespace PG
open PySem PySem.Spec PyProof.Rows L2 RT
theorem rb0 {r : Ray} (h1 : Pn r.1) (h2 : Pn r.2) : Rb 0 r := ⟨in_pn (j := 0) h1, in_pn (j := 0) h2⟩
end PG

set_option maxRecDepth 100000
set_option maxHeartbeats 4000000
namespace PG
open PySem PySem.Spec PyProof.Rows L2 RT

structure Mp where
  a : Rat
  b : Rat
  c : Rat
  d : Rat
  e : Rat
  f : Rat
def mpD (m : Mp) : Dt := .tup [fr m.a, fr m.b, fr m.c, fr m.d, fr m.e, fr m.f]
def idM : Mp := ⟨1, 0, 0, 1, 0, 0⟩
def appM (m : Mp) (r : Ray) : Ray := (m.a * r.1 + m.b * r.2 + m.e, m.c * r.1 + m.d * r.2 + m.f)
def comp (x y : Mp) : Mp := ⟨y.a * x.a + y.b * x.c, y.a * x.b + y.b * x.d, y.c * x.a + y.d * x.c, y.c * x.b + y.d * x.d, y.a * x.e + y.b * x.f + y.e, y.c * x.e + y.d * x.f + y.f⟩
def invM (m : Mp) : Mp := ⟨m.d, -m.b, -m.c, m.a, m.b * m.f - m.d * m.e, m.c * m.e - m.a * m.f⟩
def elM : El → Mp
  | .gap g => ⟨1, g, 0, 1, 0, 0⟩
  | .lens p c => ⟨1, 0, -p, 1, 0, p * c⟩
  | .prism d => ⟨1, 0, 0, 1, 0, d⟩
  | .afocal m => ⟨m, 0, 0, 1 / m, 0, 0⟩
  | .stop _ _ => idM
def det (m : Mp) : Rat := m.a * m.d - m.b * m.c
def transfer (es : List El) : Mp := es.foldl (fun m e => comp m (elM e)) idM
theorem Mp.ext {x y : Mp} (h1 : x.a = y.a) (h2 : x.b = y.b) (h3 : x.c = y.c) (h4 : x.d = y.d) (h5 : x.e = y.e) (h6 : x.f = y.f) : x = y := by
  cases x
  cases y
  simp_all
theorem comp_id (m : Mp) : comp idM m = m := by
  refine Mp.ext ?_ ?_ ?_ ?_ ?_ ?_ <;> simp [comp, idM] <;> grind
theorem id_comp (m : Mp) : comp m idM = m := by
  refine Mp.ext ?_ ?_ ?_ ?_ ?_ ?_ <;> simp [comp, idM] <;> grind
theorem comp_assoc (x y z : Mp) : comp (comp x y) z = comp x (comp y z) := by
  refine Mp.ext ?_ ?_ ?_ ?_ ?_ ?_ <;> simp only [comp] <;> grind
theorem app_comp (x y : Mp) (r : Ray) : appM (comp x y) r = appM y (appM x r) := by
  refine Prod.ext ?_ ?_ <;> simp only [comp, appM] <;> grind
theorem app_id (r : Ray) : appM idM r = r := by
  refine Prod.ext ?_ ?_ <;> simp only [idM, appM] <;> grind
theorem det_comp (x y : Mp) : det (comp x y) = det x * det y := by
  simp only [det, comp]
  grind
def ElOk : El → Prop
  | .afocal m => m ≠ 0
  | _ => True
theorem ElIn.ok {e : El} (h : ElIn e) : ElOk e := by
  cases e <;> first | trivial | exact h.2
theorem det_el {e : El} (h : ElOk e) : det (elM e) = 1 := by
  cases e with
  | afocal m =>
    have h : m ≠ 0 := h
    simp only [det, elM]
    grind
  | _ => simp only [det, elM, idM] <;> grind
theorem app_el {e : El} {r : Ray} : appM (elM e) r = behind e r := by
  cases e <;> (refine Prod.ext ?_ ?_ <;> simp only [elM, appM, behind, idM] <;> grind)
theorem fold_comp : ∀ (es : List El) (m : Mp), es.foldl (fun m e => comp m (elM e)) m = comp m (transfer es)
  | [], m => by rw [transfer]; simp only [List.foldl_nil]; rw [id_comp]
  | e :: es, m => by
    rw [transfer, List.foldl_cons, List.foldl_cons, fold_comp es, fold_comp es, comp_id, comp_assoc]
theorem transfer_cons (e : El) (es : List El) : transfer (e :: es) = comp (elM e) (transfer es) := by
  rw [transfer, List.foldl_cons, fold_comp, comp_id]
theorem transfer_append (xs ys : List El) : transfer (xs ++ ys) = comp (transfer xs) (transfer ys) := by
  rw [transfer, List.foldl_append, fold_comp]
  rfl
theorem transfer_one (e : El) : transfer [e] = elM e := by
  rw [transfer_cons]
  exact id_comp _
theorem det_transfer : ∀ {es : List El}, (∀ e ∈ es, ElOk e) → det (transfer es) = 1
  | [], _ => by
    show det idM = 1
    simp only [det, idM]
    grind
  | e :: es, h => by
    rw [transfer_cons, det_comp, det_el (h e List.mem_cons_self), det_transfer fun x hx => h x (List.mem_cons_of_mem _ hx)]
    grind
theorem comp_inv {m : Mp} (h : det m = 1) : comp m (invM m) = idM := by
  simp only [det] at h
  refine Mp.ext ?_ ?_ ?_ ?_ ?_ ?_ <;> simp only [comp, invM, idM] <;> grind
theorem inv_comp {m : Mp} (h : det m = 1) : comp (invM m) m = idM := by
  simp only [det] at h
  refine Mp.ext ?_ ?_ ?_ ?_ ?_ ?_ <;> simp only [comp, invM, idM] <;> grind

def MZ (n : Nat) (m : Mp) : Prop := (zb m.a ≤ n ∧ zb m.b ≤ n ∧ zb m.c ≤ n) ∧ zb m.d ≤ n ∧ zb m.e ≤ n ∧ zb m.f ≤ n
def MRb (j : Nat) (m : Mp) : Prop := Rb j (m.a, m.c) ∧ Rb j (m.b, m.d) ∧ Rb j (m.e, m.f)
theorem rb_zb2 {j : Nat} {r : Ray} (hr : Rb j r) : zb r.1 ≤ 9 + 10 * j ∧ zb r.2 ≤ 9 + 10 * j := by
  have p : 780 ^ j ≤ 2 ^ (10 * j) := by
    rw [Nat.pow_mul]
    exact Nat.pow_le_pow_left (by decide) j
  have p60 : 60 ^ j ≤ 2 ^ (10 * j) := by
    rw [Nat.pow_mul]
    exact Nat.pow_le_pow_left (by decide) j
  have e : 6 * 13 ^ j * (12 * 60 ^ j) = 72 * 780 ^ j := by
    rw [show (780 : Nat) = 13 * 60 from rfl, Nat.mul_pow, Nat.mul_mul_mul_comm]
  have e2 : 2 ^ (7 + 10 * j) = 128 * 2 ^ (10 * j) := by rw [Nat.pow_add]
  have e3 : 0 < 2 ^ (10 * j) := Nat.pow_pos (by decide)
  have a : 6 * 13 ^ j * (12 * 60 ^ j) < 2 ^ (7 + 10 * j) := by
    rw [e, e2]
    omega
  have b : 12 * 60 ^ j < 2 ^ (7 + 10 * j) := by
    rw [e2]
    omega
  have c : 0 < 12 * 60 ^ j := Nat.mul_pos (by decide) (Nat.pow_pos (by decide))
  have h1 := in_zb (b := 7 + 10 * j) c hr.1 a b (by omega)
  have h2 := in_zb (b := 7 + 10 * j) c hr.2 a b (by omega)
  exact ⟨by omega, by omega⟩
theorem MRb.z {j : Nat} {m : Mp} (h : MRb j m) : MZ (9 + 10 * j) m := by
  obtain ⟨h1, h2, h3⟩ := h
  have a1 := rb_zb2 h1
  have a2 := rb_zb2 h2
  have a3 := rb_zb2 h3
  exact ⟨⟨a1.1, a2.1, a1.2⟩, a2.2, a3.1, a3.2⟩
def lin : El → El
  | .lens p _ => .lens p 0
  | .prism _ => .prism 0
  | e => e
theorem pn_one : Pn 1 := ⟨1, 1, by decide, by decide, by decide, by decide⟩
theorem mrb_id : MRb 0 idM := ⟨rb0 pn_one pn_zero, rb0 pn_zero pn_one, rb0 pn_zero pn_zero⟩
end PG

set_option maxRecDepth 100000
set_option maxHeartbeats 4000000
namespace PG
open PySem PySem.Spec PyProof.Rows L2 RT
section
variable {st : List Cell} {Q : Vl → List Cell → Prop}
theorem seq_to {a b : DS} {E : DEnds} {m : M} (m' : M) (h1 : ∀ K : M → Prop, K m' → a ⟨K, E.rt, E.bk, E.ct⟩ m) (h2 : b E m') : dSeq a b E m := h1 _ h2
theorem weighted_ok {a b c d : Rat} (hz : zb a + zb b + (zb c + zb d) < ZM) (h : Q (.d (fr (a * b + c * d))) st) : sp_weighted [.d (fr a), .d (fr b), .d (fr c), .d (fr d)] st Q := by
  unfold sp_weighted
  have h1 := zb_mul a b
  have h2 := zb_mul c d
  refine ⟨rfl, multiply_ok (by omega) ?_⟩
  refine multiply_ok (by omega) ?_
  exact add_ok (by omega) (tk h)
theorem z4 {n : Nat} {a b c d : Rat} (q1 : zb a ≤ n) (q2 : zb b ≤ n) (q3 : zb c ≤ n) (q4 : zb d ≤ n) : zb (a * b + c * d) ≤ 4 * n := by
  have h1 := zb_mul a b
  have h2 := zb_mul c d
  have h3 := zb_add (a * b) (c * d)
  omega
theorem z2 {n : Nat} {a b c d : Rat} (q1 : zb a ≤ n) (q2 : zb b ≤ n) (q3 : zb c ≤ n) (q4 : zb d ≤ n) (hn : n ≤ 1000000) : zb a + zb b + (zb c + zb d) < ZM := zm (by omega)
theorem MZ.le {a b : Nat} {m : Mp} (h : MZ a m) (hab : a ≤ b) : MZ b m := by
  unfold MZ at *
  omega
theorem inv_z {n : Nat} {x : Mp} (hx : MZ n x) : MZ (4 * n) (invM x) := by
  obtain ⟨⟨a1, b1, c1⟩, d1, e1, f1⟩ := hx
  have g : ∀ {a b c d : Rat}, zb a ≤ n → zb b ≤ n → zb c ≤ n → zb d ≤ n → zb (a * b - c * d) ≤ 4 * n := fun {a b c d} q1 q2 q3 q4 => by
    have h1 := zb_mul a b
    have h2 := zb_mul c d
    have h3 := zb_sub (a * b) (c * d)
    omega
  have hb := zb_neg x.b
  have hc := zb_neg x.c
  refine ⟨⟨?_, ?_, ?_⟩, ?_, g b1 f1 d1 e1, g c1 e1 a1 f1⟩
  · show zb x.d ≤ _
    omega
  · show zb (-x.b) ≤ _
    omega
  · show zb (-x.c) ≤ _
    omega
  · show zb x.a ≤ _
    omega
theorem compose_ok {x y : Mp} {n : Nat} (hx : MZ n x) (hy : MZ n y) (hn : n ≤ 1000000) (h : Q (.d (mpD (comp x y))) st) : sp_compose_maps [.d (mpD x), .d (mpD y)] st Q := by
  obtain ⟨⟨a1, b1, c1⟩, d1, e1, f1⟩ := hx
  obtain ⟨⟨a2, b2, c2⟩, d2, e2, f2⟩ := hy
  unfold sp_compose_maps
  refine ⟨rfl, ?_⟩
  let d : Rat → Option Vl := fun q => some (.d (fr q))
  let S : Option Vl → Option Vl → Option Vl → M := fun u v w => ⟨[some (.d (mpD x)), some (.d (mpD y)), d x.a, d x.b, d x.c, d x.d, d x.e, d x.f, d y.a, d y.b, d y.c, d y.d, d y.e, d y.f, u, v, w], st⟩
  refine seq_to ⟨[some (.d (mpD x)), some (.d (mpD y)), d x.a, d x.b, d x.c, d x.d, d x.e, d x.f, none, none, none, none, none, none, none, none, none], st⟩ (fun K hK => ⟨rfl, hK⟩) ?_
  refine seq_to (S none none none) (fun K hK => ⟨rfl, hK⟩) ?_
  refine seq_to (S (some (.d (.tup [fr (y.a * x.a + y.b * x.c), fr (y.a * x.b + y.b * x.d)]))) none none) (fun K hK => weighted_ok (z2 a2 a1 b2 c1 hn) (weighted_ok (z2 a2 b1 b2 d1 hn) ⟨lineN rfl, hK⟩)) ?_
  refine seq_to (S (some (.d (.tup [fr (y.a * x.a + y.b * x.c), fr (y.a * x.b + y.b * x.d)]))) (some (.d (.tup [fr (y.c * x.a + y.d * x.c), fr (y.c * x.b + y.d * x.d)]))) none) (fun K hK => weighted_ok (z2 c2 a1 d2 c1 hn) (weighted_ok (z2 c2 b1 d2 d1 hn) ⟨lineN rfl, hK⟩)) ?_
  have h1 := z4 a2 e1 b2 f1
  have h2 := z4 c2 e1 d2 f1
  refine seq_to (S (some (.d (.tup [fr (y.a * x.a + y.b * x.c), fr (y.a * x.b + y.b * x.d)]))) (some (.d (.tup [fr (y.c * x.a + y.d * x.c), fr (y.c * x.b + y.d * x.d)]))) (some (.d (.tup [fr (y.a * x.e + y.b * x.f + y.e), fr (y.c * x.e + y.d * x.f + y.f)]))))
    (fun K hK => weighted_ok (z2 a2 e1 b2 f1 hn) (add_ok (zm (by omega)) (weighted_ok (z2 c2 e1 d2 f1 hn) (add_ok (zm (by omega)) ⟨lineN rfl, hK⟩)))) ?_
  exact ⟨lineN rfl, lineN rfl, tk h⟩
theorem invert_ok {x : Mp} {n : Nat} (hx : MZ n x) (hn : n ≤ 1000000) (h : Q (.d (mpD (invM x))) st) : sp_invert_map [.d (mpD x)] st Q := by
  obtain ⟨⟨a1, b1, c1⟩, d1, e1, f1⟩ := hx
  have m : ∀ a b : Rat, zb a ≤ n → zb b ≤ n → zb (a * b) ≤ 2 * n := fun a b q1 q2 => by
    have := zb_mul a b
    omega
  unfold sp_invert_map
  refine ⟨rfl, rfl, ?_⟩
  refine multiply_ok (zm (by omega)) ?_
  refine multiply_ok (zm (by omega)) ?_
  have := m _ _ b1 f1
  have := m _ _ d1 e1
  refine subtract_ok (zm (by omega)) ?_
  refine multiply_ok (zm (by omega)) ?_
  refine multiply_ok (zm (by omega)) ?_
  have := m _ _ c1 e1
  have := m _ _ a1 f1
  refine subtract_ok (zm (by omega)) ?_
  refine ⟨lineN rfl, ?_⟩
  refine negative_ok ?_
  refine negative_ok ?_
  exact ⟨lineN rfl, lineN rfl, tk h⟩
theorem elmap_ok {e : El} {n : Nat} (he : ElZ n e) (hn : n ≤ 400000) (h : Q (.d (mpD (elM e))) st) : sp_element_map [.d (elD e)] st Q := by
  unfold sp_element_map
  cases e with
  | gap g => exact ⟨rfl, s_gap, s_gap, str_eq ⟨lineN rfl, tk h⟩⟩
  | lens p c =>
    refine ⟨rfl, s_lens, s_gap, str_ne ne_lg ?_⟩
    refine ⟨s_lens, s_lens, str_eq ?_⟩
    refine negative_ok ?_
    have z1 := he.1
    have z2 := he.2
    refine multiply_ok (zm (by omega)) ?_
    exact ⟨lineN rfl, tk h⟩
  | prism d =>
    refine ⟨rfl, s_prism, s_gap, str_ne ne_pg ?_⟩
    refine ⟨s_prism, s_lens, str_ne ne_pl ?_⟩
    exact ⟨s_prism, s_prism, str_eq ⟨lineN rfl, tk h⟩⟩
  | afocal m =>
    refine ⟨rfl, s_afocal, s_gap, str_ne ne_ag ?_⟩
    refine ⟨s_afocal, s_lens, str_ne ne_al ?_⟩
    refine ⟨s_afocal, s_prism, str_ne ne_ap ?_⟩
    refine ⟨s_afocal, s_afocal, str_eq ?_⟩
    have z1 := he.1
    have o1 : zb 1 ≤ 2 := by decide
    refine divide_ok (x := 1) he.2 (zm (by omega)) ?_
    exact ⟨lineN rfl, tk h⟩
  | stop lo hi =>
    refine ⟨rfl, s_stop, s_gap, str_ne ne_sg ?_⟩
    refine ⟨s_stop, s_lens, str_ne ne_sl ?_⟩
    refine ⟨s_stop, s_prism, str_ne ne_sp ?_⟩
    exact ⟨s_stop, s_afocal, str_ne ne_sa (tk h)⟩
end
end PG

set_option maxRecDepth 100000
set_option maxHeartbeats 4000000
namespace PG
open PySem PySem.Spec PyProof.Rows L2 RT
section
variable {x y : Rat} {st : List Cell} {Q : Vl → List Cell → Prop}
end
end PG

set_option maxRecDepth 100000
set_option maxHeartbeats 4000000
namespace PG
open PySem PySem.Spec PyProof.Rows L2 RT
def Dn (D : Nat) (q : Rat) : Prop := ∃ n : Int, q * (D : Rat) = (n : Rat)
theorem In.dn {D B : Nat} {q : Rat} : In D B q → Dn D q := fun ⟨n, h, _⟩ => ⟨n, h⟩
theorem filt_go {α : Type} {f : α → Dt} {p : α → Bool} {sl slw : List (Option Vl)} {i : Nat} {tt : DT} {all : List Dt} {st : List Cell} {K : List Dt → M → Prop} (hi : i < slw.length)
    (ht : ∀ (a : α) (P : Bool → M → Prop), P (p a) ⟨slw.set i (some (.d (f a))), st⟩ → tt ⟨slw.set i (some (.d (f a))), st⟩ P) :
    ∀ (xs acc : List α), acc.length + xs.length ≤ 100000 → K ((acc ++ xs.filter p).map f) ⟨sl, st⟩ → dLcGo sl slw (.nm i) tt (dVar i) all none K (xs.map f) (acc.map f) st
  | [], acc, _, h => ⟨trivial, by rw [List.filter_nil, List.append_nil] at h; exact h⟩
  | x :: xs, acc, hl, h => by
    rw [List.length_cons] at hl
    refine ⟨trivial, ht x _ ?_⟩
    have hv : (slw.set i (some (.d (f x))))[i]? = some (some (.d (f x))) := by simp [hi]
    cases hp : p x with
    | true =>
      rw [if_pos rfl]
      unfold dVar
      simp only [hv]
      refine ⟨by rw [List.length_map]; exact small_lt (by omega), ?_⟩
      have := filt_go (all := all) (K := K) hi ht xs (acc ++ [x]) (by rw [List.length_append, List.length_singleton]; omega) (by rw [List.append_assoc]; rw [List.filter_cons, if_pos hp] at h; exact h)
      rw [List.map_append] at this
      exact this
    | false =>
      exact filt_go (K := K) hi ht xs acc (by omega) (by rw [List.filter_cons, if_neg (by rw [hp]; decide)] at h; exact h)
section
variable {st : List Cell} {Q : Vl → List Cell → Prop}
theorem eqD_fr {x y : Rat} : eqD (fr x) (fr y) = decide (x = y) := by
  rw [Bool.eq_iff_iff, eqD_iff (nb_fr x) (nb_fr y), fr_inj, decide_eq_true_iff]
end
end PG

set_option maxRecDepth 100000
set_option maxHeartbeats 4000000
namespace PG
open PySem PySem.Spec PyProof.Rows L2 RT
def D5 : Nat := 12 * 60 ^ 5
def s3 : Rat := Rat.divInt (-2) 3
structure Dist (A : Mp) (q : Rat) : Prop where
  z : zb q ≤ 300
  den : q.den ≤ 2 ^ 90
  good : A.c * q + A.d = 0 ∨ Pn q
section
variable {A : Mp} {q h0 s : Rat}
theorem mul_lt {a b c d n : Nat} (h1 : a ≤ c) (h2 : b ≤ d) (h : c * d < n) : a * b < n := Nat.lt_of_le_of_lt (Nat.mul_le_mul h1 h2) h
end
end PG

set_option maxRecDepth 100000
set_option maxHeartbeats 4000000
namespace PG
open PySem PySem.Spec PyProof.Rows L2 RT
end PG

set_option maxRecDepth 100000
set_option maxHeartbeats 4000000
namespace PG
open PySem PySem.Spec PyProof.Rows L2 RT
section
variable {x y : Rat} {st : List Cell} {Q : Vl → List Cell → Prop}
theorem lfrac_ok {n d : Int} (hd : d ≠ 0) (h : Q (.d (fr (Rat.divInt n d))) st) : sp__law_frac [.d (.int n), .d (.int d)] st Q := by
  unfold sp__law_frac
  have hg : (Int.gcd n d : Int) ≠ 0 := by
    have : Int.gcd n d ≠ 0 := fun e => hd (Int.gcd_eq_zero_iff.mp e).2
    omega
  have hn : (Int.gcd n d : Int) ∣ n := Int.gcd_dvd_left ..
  have hd' : (Int.gcd n d : Int) ∣ d := Int.gcd_dvd_right ..
  have e1 : (Rat.divInt n d).num = d.sign * n / Int.gcd n d := by rw [Rat.num_divInt, Int.gcd_comm]
  have e2 : (((Rat.divInt n d).den : Nat) : Int) = d.sign * d / Int.gcd n d := by
    rw [Rat.den_divInt, if_neg hd, Int.natCast_ediv, Int.gcd_comm, sign_self]
  have fin : ∀ s : Int, (s = 1 ∨ s = -1) → s = d.sign → s * (Int.gcd n d : Int) ≠ 0 ∧ s * (Int.gcd n d : Int) ≠ 0 ∧ Q (.d (.tup [.int (n.fdiv (s * Int.gcd n d)), .int (d.fdiv (s * Int.gcd n d))])) st := fun s hs e => by
    refine ⟨by rcases hs with rfl | rfl <;> omega, by rcases hs with rfl | rfl <;> omega, ?_⟩
    rw [sgn_div hg hn hs, sgn_div hg hd' hs, e, ← e1, ← e2]
    exact h
  refine ⟨rfl, ?_⟩
  refine seq_to ⟨[some (.d (.int n)), some (.d (.int d)), some (.d (.int n.natAbs)), none], st⟩ (fun K hK => by rw [← abs_eq n] at hK; exact hK) ?_
  refine seq_to ⟨[some (.d (.int n)), some (.d (.int d)), some (.d (.int n.natAbs)), some (.d (.int d.natAbs))], st⟩ (fun K hK => by rw [← abs_eq d] at hK; exact hK) ?_
  refine seq_to ⟨[some (.d (.int n)), some (.d (.int d)), some (.d (.int (Int.gcd n d : Int))), some (.d (.int 0))], st⟩ (fun K hK => ?_) ?_
  · refine ⟨fun k m => ∃ x y : Nat, m = ⟨[some (.d (.int n)), some (.d (.int d)), some (.d (.int x)), some (.d (.int y))], st⟩ ∧ k = y ∧ Nat.gcd x y = Int.gcd n d, ⟨d.natAbs, n.natAbs, d.natAbs, rfl, rfl, rfl⟩, ?_⟩
    rintro y m ⟨x, _, rfl, rfl, hgc⟩
    refine ⟨trivial, ?_⟩
    show if (decide ((0 : Int) < y)) = true then _ else _
    by_cases hy : (0 : Int) < y
    · rw [if_pos (decide_eq_true hy)]
      refine ⟨by omega, ?_⟩
      refine ⟨x % y, Nat.mod_lt _ (by omega), y, x % y, ?_, rfl, ?_⟩
      · rw [Int.natCast_emod, ← Int.fmod_eq_emod_of_nonneg _ (by omega)]
        rfl
      · rw [← hgc, Nat.gcd_comm x y, Nat.gcd_rec y x, Nat.gcd_comm]
    · rw [if_neg (by simp; omega)]
      have e : y = 0 := by omega
      subst e
      rw [Nat.gcd_zero_right] at hgc
      rw [← hgc] at hK
      exact hK
  refine ⟨trivial, ?_⟩
  show if (decide (d < 0)) = true then _ else _
  by_cases hs : d < 0
  · rw [if_pos (decide_eq_true hs)]
    obtain ⟨a, b, c⟩ := fin (-1) (.inr rfl) (Int.sign_eq_neg_one_of_neg hs).symm
    rw [Int.neg_one_mul] at a b c
    exact ⟨a, b, lineN rfl, tk c⟩
  · rw [if_neg (by simp; omega)]
    obtain ⟨a, b, c⟩ := fin 1 (.inl rfl) (Int.sign_eq_one_of_pos (by omega)).symm
    rw [Int.one_mul] at a b c
    exact ⟨a, b, lineN rfl, tk c⟩
theorem ladd2_ok (hz : zb x + zb y < ZM) (h : Q (.d (fr (x + y))) st) : sp__law_add_2 [.d (fr x), .d (fr y)] st Q := by
  unfold sp__law_add_2
  refine ⟨rfl, mk_nn (zb_num x) (dn y) hz, mk_nn (zb_num y) (dn x) (by omega), mk_nn (dn x) (dn y) hz, ?_⟩
  refine lfrac_ok (mul_nn x y) (tk ?_)
  rw [← add_val]
  exact h
theorem lneg_ok (h : Q (.d (fr (-x))) st) : sp__law_neg [.d (fr x)] st Q := by
  unfold sp__law_neg
  refine ⟨rfl, lineN rfl, tk ?_⟩
  have e : fr (-x) = .tup [.int (-x.num), .int x.den] := by
    unfold fr
    rw [Rat.neg_num, Rat.neg_den]
  rw [e] at h
  exact h
theorem lsub2_ok (hz : zb x + zb y < ZM) (h : Q (.d (fr (x - y))) st) : sp__law_sub_2 [.d (fr x), .d (fr y)] st Q := by
  unfold sp__law_sub_2
  refine ⟨rfl, lneg_ok ?_⟩
  refine ladd2_ok (by rw [zb_neg]; exact hz) (tk ?_)
  rw [← Rat.sub_eq_add_neg]
  exact h
theorem lmul2_ok (hz : zb x + zb y < ZM) (h : Q (.d (fr (x * y))) st) : sp__law_mul_2 [.d (fr x), .d (fr y)] st Q := by
  unfold sp__law_mul_2
  refine ⟨rfl, mk_nn (zb_num x) (zb_num y) hz, mk_nn (dn x) (dn y) hz, ?_⟩
  refine lfrac_ok (mul_nn x y) (tk ?_)
  rw [← mul_val]
  exact h
theorem ldiv_ok (hy : y ≠ 0) (hz : zb x + zb y < ZM) (h : Q (.d (fr (x / y))) st) : sp__law_div [.d (fr x), .d (fr y)] st Q := by
  unfold sp__law_div
  refine ⟨rfl, mk_nn (zb_num x) (dn y) hz, mk_nn (dn x) (zb_num y) hz, ?_⟩
  refine lfrac_ok (Int.mul_ne_zero (den_pos x) (num_nz hy)) (tk ?_)
  rw [← div_val x hy]
  exact h
theorem same_ok {d : Dt} (hs : shows d) (h : Q (.d (.bl true)) st) : sp__law_same [.d d, .d d] st Q := by
  unfold sp__law_same
  refine ⟨rfl, hs, hs, tk ?_⟩
  have e : decide (reprD d = reprD d) = true := decide_eq_true rfl
  rw [e]
  exact h
end
end PG

set_option maxRecDepth 100000
set_option maxHeartbeats 4000000
namespace PG
open PySem PySem.Spec PyProof.Rows L2 RT
theorem draw2_ok {ds : List Int} {i k : Nat} {n : Int} {st : List Cell} {Q : Vl → List Cell → Prop} (hk : st[k]? = some (Bx ds i)) (hn : 0 < n) (hi3 : i < 1000000) (h : ∀ r : Int, 0 ≤ r → r < n → Q (.d (.int r)) (st.set k (Bx ds (i + 1)))) :
    sp__law_draw_2 [.c k, .d (.int n)] st Q := by
  have hlt : k < st.length := (List.getElem?_eq_some_iff.mp hk).1
  have hs : (st.set k (Bx ds (i + 1)))[k]? = some (Bx ds (i + 1)) := by simp [hlt]
  have hl : (st.set k (Bx ds (i + 1))).length = st.length := List.length_set
  unfold sp__law_draw_2
  refine ⟨rfl, ?_⟩
  refine onV_c hk ?_
  refine onC_mk hk ?_
  refine onJ_mk (j := 1) rfl ?_
  have e0 : ([Dt.lst (ds.map .int), Dt.int i].set 1 (Dt.int (i + 1))) = [Dt.lst (ds.map .int), Dt.int ((i + 1 : Nat) : Int)] := rfl
  dsimp only
  rw [e0]
  change dSeq (dIfS _ _ _) _ _ ⟨_, st.set k (Bx ds (i + 1))⟩
  refine onV_c hs ?_
  refine onV_d (rIx_mk (z := Dt.lst (ds.map .int)) rfl ?_)
  refine ⟨trivial, ?_⟩
  show if (decide ((i : Int) < ((ds.map Dt.int).length : Int))) = true then _ else _
  rw [List.length_map]
  by_cases hi : (i : Int) < (ds.length : Int)
  · rw [if_pos (decide_eq_true hi)]
    refine onV_c hs ?_
    refine onV_d (rIx_mk (z := Dt.lst (ds.map .int)) rfl ?_)
    refine ix_ints (ns := ds) (k := (i : Int)) (by omega) (by omega) ?_
    refine ⟨by show n ≠ 0; omega, ?_⟩
    obtain ⟨b0, b1⟩ := fmod_bd (ds.getD (i : Int).toNat 0) hn
    have := h _ b0 b1
    rw [← hl]
    exact tk this
  · rw [if_neg (by simp; omega)]
    have li := log2_small (v := (i : Int)) (n := 20) (by omega) (by omega) (by decide)
    refine ⟨mulok (by rw [show (7 : Int).natAbs.log2 = 2 by decide]; unfold ZM; omega), ?_⟩
    refine ⟨by show n ≠ 0; omega, ?_⟩
    obtain ⟨b0, b1⟩ := fmod_bd ((i : Int) * 7 + 3) hn
    have := h _ b0 b1
    rw [← hl]
    exact tk this
end PG

set_option maxRecDepth 100000
set_option maxHeartbeats 4000000
namespace PG
open PySem PySem.Spec PyProof.Rows L2 RT
theorem row_ok {v k : Int} {st : List Cell} {Q : Vl → List Cell → Prop} (hv : v.natAbs.log2 ≤ 1048576) (hk0 : 0 ≤ k) (hk1 : k ≤ 100) (h : ∀ ds : List Int, Dg ds → ds.length ≤ 60 → Q (.d (.lst (ds.map .int))) st) :
    sp__law_row [.d (.int v), .d (.int k), .d (.int 12)] st Q := by
  unfold sp__law_row
  refine ⟨rfl, lineN rfl, ?_⟩
  dsimp only
  let S : Int → List Int → Option Vl → Option Vl → M := fun v ds z4 z5 => ⟨[some (.d (.int v)), some (.d (.int k)), some (.d (.int 12)), some (.c st.length), z4, z5], st ++ [.lst (ds.map .int)]⟩
  have ret : ∀ (v : Int) (ds : List Int) (z4 z5 : Option Vl), Dg ds → ds.length ≤ 60 → dRet (dVar 3) (endsOf false st.length Q) (S v ds z4 z5) := fun v ds z4 z5 hd hl => by
    show if st.length < st.length then _ else onC (st ++ [Cell.lst (ds.map Dt.int)]) st.length _
    rw [if_neg (Nat.lt_irrefl _)]
    refine onC_mk (getElem_last _ _) ?_
    rw [if_neg (by decide)]
    show Q (.d (.lst (ds.map .int))) ((st ++ [Cell.lst (ds.map Dt.int)]).take st.length)
    rw [List.take_left]
    exact h ds hd hl
  refine seq_mid (fun m' => ∃ v : Int, m' = S v [] none none ∧ 0 ≤ v ∧ v.natAbs.log2 ≤ 1048580) (fun K' hK' => ?_) ?_
  · refine ⟨trivial, ?_⟩
    show if (decide (v < 0)) = true then _ else _
    by_cases hv0 : v < 0
    · rw [if_pos (decide_eq_true hv0)]
      refine ⟨?_, trivial, hK' _ ⟨1 - 2 * v, rfl, by omega, ?_⟩⟩
      · show (2 : Int).natAbs.log2 + v.natAbs.log2 < 67108864
        have : (2 : Int).natAbs.log2 = 1 := by decide
        omega
      · have e : (1 - 2 * v).natAbs = 1 + 2 * v.natAbs := by omega
        rw [e]
        have h1 := @log2_add_le 1 (2 * v.natAbs)
        have h2 := @log2_mul_le 2 v.natAbs
        have h3 : Nat.log2 2 = 1 := by decide
        have h4 : Nat.log2 1 = 0 := by decide
        omega
    · rw [if_neg (by simp; omega)]
      exact hK' _ ⟨v, rfl, by omega, by omega⟩
  rintro _ ⟨v, rfl, hv0, hvb⟩
  refine ⟨⟨by decide, by decide, by decide⟩, trivial, ?_⟩
  show if (decide ((10 : Int) ^ 18 ≤ v)) = true then _ else _
  by_cases hbig : (10 : Int) ^ 18 ≤ v
  · rw [if_pos (decide_eq_true hbig)]
    refine ⟨⟨by decide, by decide⟩, ?_⟩
    refine range_inv (fun j l m => ∃ (ds' : List Int) (v : Int) (z : Option Vl), m = S v ds' z none ∧ Dg ds' ∧ ds'.length + j ≤ 60) ?_ ?_ 60 0 _ ⟨[], v, none, rfl, (show Dg [] from fun d hd => nomatch hd), Nat.le_refl _⟩
    · rintro j l m K2 hK2 ⟨ds', v, z, rfl, hd', hl2⟩
      refine ⟨trivial, ?_⟩
      show if (decide ((0 : Int) < v)) = true then _ else _
      by_cases hvp : (0 : Int) < v
      · rw [if_pos (decide_eq_true hvp)]
        refine onV_c (getElem_last _ _) ?_
        refine ⟨trivial, ?_⟩
        show if (decide (((ds'.map Dt.int).length : Int) < 12)) = true then _ else _
        by_cases h12 : ((ds'.map Dt.int).length : Int) < 12
        · rw [if_pos (decide_eq_true h12)]
          refine ⟨⟨_, getElem_last _ _⟩, k1000, onC_mk (getElem_last _ _) ⟨small_lt (by rw [List.length_map]; omega), k1000, ?_⟩⟩
          obtain ⟨b0, b1⟩ := fmod_bd v (n := 1000) (by decide)
          refine hK2 _ ⟨ds' ++ [v.fmod 1000], v.fdiv 1000, some (.d (.int l)), ?_, hd'.app b0 b1, by rw [List.length_append, List.length_singleton]; omega⟩
          exact congrArg (M.mk _) push_st
        · rw [if_neg (by simpa using h12)]
          exact hK2 _ ⟨ds', v, some (.d (.int l)), rfl, hd', by omega⟩
      · rw [if_neg (by simp; omega)]
        exact hK2 _ ⟨ds', v, some (.d (.int l)), rfl, hd', by omega⟩
    · rintro l m ⟨ds', v, z, rfl, hd', hl2⟩
      exact ret v ds' z none hd' (by omega)
  · rw [if_neg (by simp; omega)]
    have hv18 : v < 2 ^ 60 := by
      have : (10 : Int) ^ 18 < 2 ^ 60 := by decide
      omega
    have lv := log2_small hv0 hv18 (by decide)
    have llo := log2_small (v := k) (n := 7) hk0 (by omega) (by decide)
    refine ⟨?_, ?_, kMx, ?_⟩
    · show v.natAbs.log2 + (48271 : Int).natAbs.log2 < 67108864
      have : (48271 : Int).natAbs.log2 = 15 := by decide
      omega
    · show k.natAbs.log2 + (69621 : Int).natAbs.log2 < 67108864
      have : (69621 : Int).natAbs.log2 = 16 := by decide
      omega
    refine ⟨⟨by decide, by decide⟩, ?_⟩
    obtain ⟨s0, s1⟩ := fmod_bd (v * 48271 + k * 69621 + 11) (n := 2147483647) (by decide)
    refine range_inv (fun j l m => ∃ (ds' : List Int) (sd : Int) (z : Option Vl), m = S v ds' z (some (.d (.int sd))) ∧ Dg ds' ∧ ds'.length + j ≤ 12 ∧ 0 ≤ sd ∧ sd < 2147483647 ∧ 0 ≤ l ∧ l + j = 12) ?_ ?_ 12 0 _ ⟨[], _, none, rfl, (show Dg [] from fun d hd => nomatch hd), Nat.le_refl _, s0, s1, by decide, by decide⟩
    · rintro j l m K2 hK2 ⟨ds', sd, z, rfl, hd', hl2, c0, c1, l0, l1⟩
      have lsd := log2_small (n := 31) c0 (by omega) (by decide)
      have ll := log2_small (v := l) (n := 4) l0 (by omega) (by decide)
      refine ⟨?_, ?_, kMx, ?_⟩
      · show sd.natAbs.log2 + (16807 : Int).natAbs.log2 < 67108864
        have : (16807 : Int).natAbs.log2 = 14 := by decide
        omega
      · show (7 : Int).natAbs.log2 + l.natAbs.log2 < 67108864
        have : (7 : Int).natAbs.log2 = 2 := by decide
        omega
      obtain ⟨t0, t1⟩ := fmod_bd (sd * 16807 + 7 * l + 1) (n := 2147483647) (by decide)
      refine ⟨⟨_, getElem_last _ _⟩, k997, k1000, onC_mk (getElem_last _ _) ⟨small_lt (by rw [List.length_map]; omega), ?_⟩⟩
      obtain ⟨b0, b1⟩ := fmod_bd (((sd * 16807 + 7 * l + 1).fmod 2147483647).fdiv 997) (n := 1000) (by decide)
      refine hK2 _ ⟨ds' ++ [(((sd * 16807 + 7 * l + 1).fmod 2147483647).fdiv 997).fmod 1000], _, some (.d (.int l)), ?_, hd'.app b0 b1, by rw [List.length_append, List.length_singleton]; omega, t0, t1, by omega, by omega⟩
      exact congrArg (M.mk _) push_st
    · rintro l m ⟨ds', sd, z, rfl, hd', hl2, _⟩
      exact ret v ds' z _ hd' (by omega)
theorem box_ok {ns : List Int} {b : Int} {st : List Cell} {Q : Vl → List Cell → Prop} (hb : Bits ns) (h0 : 0 ≤ b) (h2 : b ≤ 100) (h : ∀ ds : List Int, Dg ds → ds.length ≤ 6000 → Q (.c st.length) (st ++ [Bx ds 0])) :
    sp__law_box [.d (.lst (ns.map .int)), .d (.int 0), .d (.int b)] st Q := by
  unfold sp__law_box
  refine ⟨rfl, lineN rfl, ?_⟩
  refine ⟨⟨⟨by decide, by decide⟩, ⟨by omega, by omega⟩⟩, ?_⟩
  refine range_inv (fun n lo m => ∃ (ds : List Int) (z : Option Vl), m = ⟨[some (.d (.lst (ns.map .int))), some (.d (.int 0)), some (.d (.int b)), some (.d (.lst (ds.map .int))), z], st⟩ ∧ Dg ds ∧ 0 ≤ lo ∧ lo + n = b ∧ ds.length ≤ 60 * lo.toNat) ?_ ?_ (b - 0).toNat 0 _ ⟨[], none, rfl, (show Dg [] from fun d hd => nomatch hd), Int.le_refl _, by omega, Nat.zero_le _⟩
  · rintro n lo m K hK ⟨ds, z, rfl, hd, hlo, hn, hl⟩
    refine cell_ok hb (by omega) fun v hv => ?_
    refine row_ok hv hlo (by omega) fun ds2 hd2 hl2 => ?_
    refine ⟨?_, ?_⟩
    · rw [List.length_map, List.length_map]
      exact Nat.le_of_lt (small_lt (by omega))
    · refine hK _ ⟨ds ++ ds2, some (.d (.int lo)), ?_, fun d hx => (List.mem_append.mp hx).elim (hd d) (hd2 d), by omega, by omega, by rw [List.length_append]; omega⟩
      rw [List.map_append]
      rfl
  · rintro lo m ⟨ds, z, rfl, hd, hlo, hn, hl⟩
    refine ⟨lineN rfl, ?_⟩
    show if st.length < st.length then _ else onC (st ++ [Bx ds 0]) st.length _
    rw [if_neg (Nat.lt_irrefl _)]
    refine onC_mk (getElem_last _ _) ?_
    rw [if_pos rfl]
    show Q (.c st.length) ((st ++ [Bx ds 0]).take st.length ++ [Bx ds 0])
    rw [List.take_left]
    exact h ds hd (by omega)
end PG

set_option maxRecDepth 100000
set_option maxHeartbeats 4000000
namespace PG
open PySem PySem.Spec PyProof.Rows L2 RT
theorem slt {n : Nat} (h : Nat.ble n 1000 = true) : n < sizeLine := small_lt (Nat.lt_of_le_of_lt (Nat.le_of_ble_eq_true h) (by decide))
theorem gx_any {α : Type} (f : α → Dt) (p : α → Bool) {sl slw : List (Option Vl)} {g : Tgt} {te : DE} {all : List Dt} {K : Bool → M → Prop} {st : List Cell} :
    ∀ {xs : List α}, (∀ x ∈ xs, ∀ (C : Vl → M → Prop), (∀ sl', C (.d (.bl (p x))) ⟨sl', st⟩) → tgD g (.d (f x)) ⟨slw, st⟩ fun m1 => te m1 C) → K (xs.any p) ⟨sl, st⟩ → dGxGo false sl slw g te all none K (xs.map f) st
  | [], _, h => ⟨trivial, h⟩
  | x :: r, hs, h => ⟨trivial, hs x List.mem_cons_self _ fun sl' => by
    show if p x = false then _ else _
    rw [List.any_cons] at h
    cases hp : p x with
    | false =>
      rw [hp, Bool.false_or] at h
      rw [if_pos rfl]
      exact gx_any f p (fun y hy => hs y (List.mem_cons_of_mem _ hy)) h
    | true =>
      rw [hp, Bool.true_or] at h
      rw [if_neg (by decide)]
      exact h⟩

structure Hp3 where
  p : Int
  q : Int
  r : Int
  deriving DecidableEq
def hpD (h : Hp3) : Dt := .tup [.int h.p, .int h.q, .int h.r]
def HZ (n : Nat) (h : Hp3) : Prop := h.p.natAbs.log2 + 2 ≤ n ∧ h.q.natAbs.log2 + 2 ≤ n ∧ h.r.natAbs.log2 + 2 ≤ n
def valH (h : Hp3) (x : Ray) : Rat := (h.p : Rat) * x.1 + (h.q : Rat) * x.2
def hasH (x : Ray) (h : Hp3) : Bool := decide (valH h x ≤ (h.r : Rat))
theorem divInt_one (n : Int) : Rat.divInt n 1 = (n : Rat) := by
  rw [Rat.divInt_eq_div]
  show (n : Rat) / ((1 : Int) : Rat) = (n : Rat)
  rw [Rat.intCast_one]
  grind
theorem zb_int (n : Int) : zb (n : Rat) ≤ n.natAbs.log2 + 2 := by
  unfold zb
  rw [Rat.num_intCast, Rat.den_intCast]
  have : Nat.log2 1 = 0 := by decide
  omega
section
variable {st : List Cell} {Q : Vl → List Cell → Prop}
theorem frac1_ok {n : Int} (h : Q (.d (fr (n : Rat))) st) : sp_fraction [.d (.int n), .d (.int 1)] st Q := by
  refine fraction_ok (by decide) ?_
  rw [divInt_one]
  exact h
end

def mkX (p q r : Rat) : Int := p.num * (q.den * r.den)
def mkY (p q r : Rat) : Int := q.num * (p.den * r.den)
def mkZ (p q r : Rat) : Int := r.num * (p.den * q.den)
def mkG (p q r : Rat) : Int := (Int.gcd (Int.gcd (mkX p q r) (mkY p q r) : Int) (mkZ p q r) : Int)
def mkH (p q r : Rat) : Hp3 := ⟨mkX p q r / mkG p q r, mkY p q r / mkG p q r, mkZ p q r / mkG p q r⟩
theorem den_pos' (x : Rat) : (0 : Int) < (x.den : Int) := by
  have := x.den_pos
  omega
theorem denR_pos (x : Rat) : (0 : Rat) < (x.den : Rat) := by
  have := x.den_pos
  exact Rat.natCast_pos.mpr this
theorem num_den (x : Rat) : (x.num : Rat) = x * (x.den : Rat) := by
  have h := denR_pos x
  have e : x = (x.num : Rat) / (x.den : Rat) := by
    conv => lhs; rw [← Rat.num_divInt_den x]
    rw [Rat.divInt_eq_div, Rat.intCast_natCast]
  generalize (x.num : Rat) = a at *
  generalize (x.den : Rat) = b at *
  grind
section
variable {p q r : Rat}
theorem mkG_pos (h : ¬ (p = 0 ∧ q = 0)) : 0 < mkG p q r := by
  unfold mkG
  have : Int.gcd (Int.gcd (mkX p q r) (mkY p q r) : Int) (mkZ p q r) ≠ 0 := fun e => by
    have e1 := (Int.gcd_eq_zero_iff.mp e).1
    have e2 : Int.gcd (mkX p q r) (mkY p q r) = 0 := by omega
    obtain ⟨e3, e4⟩ := Int.gcd_eq_zero_iff.mp e2
    have dp := den_pos' p
    have dq := den_pos' q
    have dr := den_pos' r
    have n1 : (q.den : Int) * r.den ≠ 0 := Int.mul_ne_zero (by omega) (by omega)
    have n2 : (p.den : Int) * r.den ≠ 0 := Int.mul_ne_zero (by omega) (by omega)
    refine h ⟨Rat.num_eq_zero.mp ?_, Rat.num_eq_zero.mp ?_⟩
    · rcases Int.mul_eq_zero.mp e3 with z | z
      · exact z
      · exact (n1 z).elim
    · rcases Int.mul_eq_zero.mp e4 with z | z
      · exact z
      · exact (n2 z).elim
  omega
theorem mk_dvd : mkG p q r ∣ mkX p q r ∧ mkG p q r ∣ mkY p q r ∧ mkG p q r ∣ mkZ p q r := by
  unfold mkG
  have h1 : (Int.gcd (Int.gcd (mkX p q r) (mkY p q r) : Int) (mkZ p q r) : Int) ∣ (Int.gcd (mkX p q r) (mkY p q r) : Int) := Int.gcd_dvd_left ..
  exact ⟨Int.dvd_trans h1 (Int.gcd_dvd_left ..), Int.dvd_trans h1 (Int.gcd_dvd_right ..), Int.gcd_dvd_right ..⟩
theorem ediv_cast {a g : Int} (hg : g ≠ 0) (h : g ∣ a) : ((a / g : Int) : Rat) * (g : Rat) = (a : Rat) := by
  obtain ⟨k, rfl⟩ := h
  rw [Int.mul_ediv_cancel_left _ hg, Rat.intCast_mul]
  grind
theorem mkH_spec (h : ¬ (p = 0 ∧ q = 0)) : ∃ t : Rat, 0 < t ∧ ((mkH p q r).p : Rat) = t * p ∧ ((mkH p q r).q : Rat) = t * q ∧ ((mkH p q r).r : Rat) = t * r := by
  have hg := mkG_pos (r := r) h
  obtain ⟨d1, d2, d3⟩ := mk_dvd (p := p) (q := q) (r := r)
  have hgn : mkG p q r ≠ 0 := by omega
  have c1 := ediv_cast hgn d1
  have c2 := ediv_cast hgn d2
  have c3 := ediv_cast hgn d3
  have hgr : (0 : Rat) < (mkG p q r : Rat) := Rat.intCast_pos.mpr hg
  have dp := denR_pos p
  have dq := denR_pos q
  have dr := denR_pos r
  have x1 : (mkX p q r : Rat) = p * (p.den : Rat) * ((q.den : Rat) * (r.den : Rat)) := by
    unfold mkX
    rw [Rat.intCast_mul, Rat.intCast_mul, num_den p]
    simp only [Rat.intCast_natCast]
  have x2 : (mkY p q r : Rat) = q * (q.den : Rat) * ((p.den : Rat) * (r.den : Rat)) := by
    unfold mkY
    rw [Rat.intCast_mul, Rat.intCast_mul, num_den q]
    simp only [Rat.intCast_natCast]
  have x3 : (mkZ p q r : Rat) = r * (r.den : Rat) * ((p.den : Rat) * (q.den : Rat)) := by
    unfold mkZ
    rw [Rat.intCast_mul, Rat.intCast_mul, num_den r]
    simp only [Rat.intCast_natCast]
  have hs : (0 : Rat) < (p.den : Rat) * (q.den : Rat) * (r.den : Rat) := Rat.mul_pos (Rat.mul_pos dp dq) dr
  refine ⟨(p.den : Rat) * (q.den : Rat) * (r.den : Rat) / (mkG p q r : Rat), ?_, ?_, ?_, ?_⟩
  · rw [Rat.div_def]
    exact Rat.mul_pos hs (Rat.inv_pos.mpr hgr)
  · show ((mkX p q r / mkG p q r : Int) : Rat) = _
    rw [x1] at c1
    generalize (mkG p q r : Rat) = g at *
    grind
  · show ((mkY p q r / mkG p q r : Int) : Rat) = _
    rw [x2] at c2
    generalize (mkG p q r : Rat) = g at *
    grind
  · show ((mkZ p q r / mkG p q r : Int) : Rat) = _
    rw [x3] at c3
    generalize (mkG p q r : Rat) = g at *
    grind
theorem fdiv_pos {a g : Int} (hg : 0 < g) : a.fdiv g = a / g := by
  rw [Int.fdiv_eq_ediv_of_nonneg _ (by omega)]
theorem sh_fr' {q : Rat} : shD (fr q) := sh_ok sh_fr
theorem mkplane_ok {st : List Cell} {Q : Vl → List Cell → Prop} {n : Nat} (h0 : ¬ (p = 0 ∧ q = 0)) (hp : zb p ≤ n) (hq : zb q ≤ n) (hr : zb r ≤ n) (hn : n ≤ 1000000) (h : Q (.d (hpD (mkH p q r))) st) : sp_make_half_plane [.d (fr p), .d (fr q), .d (fr r)] st Q := by
  have p1 := zb_num p
  have p2 := zb_den p
  have q1 := zb_num q
  have q2 := zb_den q
  have r1 := zb_num r
  have r2 := zb_den r
  have dp := den_pos' p
  have dq := den_pos' q
  have dr := den_pos' r
  unfold sp_make_half_plane
  refine ⟨rfl, ?_⟩
  let S : Option Vl → Option Vl → Option Vl → M := fun z3 z4 z5 => ⟨[some (.d (fr p)), some (.d (fr q)), some (.d (fr r)), z3, z4, z5, none], st⟩
  refine guard_st (S none none none) (fun K hK => ?_) ?_
  · refine ⟨sh_fr', sh_fr' (q := 0), ?_⟩
    show if eqD (fr p) (fr 0) = true then _ else _
    rw [eqD_fr]
    by_cases c : p = 0
    · rw [if_pos (decide_eq_true c)]
      refine ⟨sh_fr', sh_fr' (q := 0), ?_⟩
      show K (eqD (fr q) (fr 0)) _
      rw [eqD_fr, decide_eq_false (fun e => h0 ⟨c, e⟩)]
      exact hK
    · rw [if_neg (by simpa using c)]
      exact hK
  have m1 := @log2_mul_le p.den q.den
  have m2 := @log2_mul_le q.den r.den
  have m3 := @log2_mul_le p.den r.den
  refine ⟨mulok (by rw [Int.natAbs_natCast, Int.natAbs_natCast]; exact zm (by omega)), mulok (by rw [Int.natAbs_mul, Int.natAbs_natCast, Int.natAbs_natCast, Int.natAbs_natCast]; exact zm (by omega)), ?_⟩
  have nS : (p.den : Int) * q.den * r.den ≠ 0 := Int.mul_ne_zero (Int.mul_ne_zero (by omega) (by omega)) (by omega)
  have f1 : ((p.den : Int) * q.den * r.den).fdiv p.den = q.den * r.den := by
    rw [Int.mul_assoc, Int.mul_fdiv_cancel_left _ (by omega)]
  have f2 : ((p.den : Int) * q.den * r.den).fdiv q.den = p.den * r.den := by
    rw [Int.mul_comm (p.den : Int), Int.mul_assoc, Int.mul_fdiv_cancel_left _ (by omega)]
  have f3 : ((p.den : Int) * q.den * r.den).fdiv r.den = p.den * q.den := by
    rw [Int.mul_fdiv_cancel _ (by omega)]
  dsimp only
  refine seq_to (S (some (.d (.int ((p.den : Int) * q.den * r.den)))) (some (.d (.lst [.int (mkX p q r), .int (mkY p q r), .int (mkZ p q r)]))) none) (fun K hK => ?_) ?_
  · refine ⟨lineN rfl, trivial, den_pos p, ?_⟩
    show MulOk p.num (((p.den : Int) * q.den * r.den).fdiv p.den) ∧ _
    refine ⟨by rw [f1]; exact mulok (by rw [Int.natAbs_mul, Int.natAbs_natCast, Int.natAbs_natCast]; exact zm (by omega)), slt rfl, trivial, den_pos q, ?_⟩
    refine ⟨by show MulOk q.num (((p.den : Int) * q.den * r.den).fdiv q.den); rw [f2]; exact mulok (by rw [Int.natAbs_mul, Int.natAbs_natCast, Int.natAbs_natCast]; exact zm (by omega)), slt rfl, trivial, den_pos r, ?_⟩
    refine ⟨by show MulOk r.num (((p.den : Int) * q.den * r.den).fdiv r.den); rw [f3]; exact mulok (by rw [Int.natAbs_mul, Int.natAbs_natCast, Int.natAbs_natCast]; exact zm (by omega)), slt rfl, trivial, ?_⟩
    have e1 : mkX p q r = p.num * (((p.den : Int) * q.den * r.den).fdiv p.den) := by rw [f1]; rfl
    have e2 : mkY p q r = q.num * (((p.den : Int) * q.den * r.den).fdiv q.den) := by rw [f2]; rfl
    have e3 : mkZ p q r = r.num * (((p.den : Int) * q.den * r.den).fdiv r.den) := by rw [f3]; rfl
    rw [e1, e2, e3] at hK
    exact hK
  have g0 := mkG_pos (r := r) h0
  refine gcd_ok ?_
  refine gcd_ok ?_
  show mkG p q r ≠ 0 ∧ mkG p q r ≠ 0 ∧ mkG p q r ≠ 0 ∧ _
  refine ⟨by omega, by omega, by omega, lineN rfl, tk ?_⟩
  show Q (.d (.tup [.int ((mkX p q r).fdiv (mkG p q r)), .int ((mkY p q r).fdiv (mkG p q r)), .int ((mkZ p q r).fdiv (mkG p q r))])) st
  rw [fdiv_pos g0, fdiv_pos g0, fdiv_pos g0]
  exact h
end
end PG

set_option maxRecDepth 100000
set_option maxHeartbeats 4000000
namespace PG
open PySem PySem.Spec PyProof.Rows L2 RT
abbrev Ed := Nat × Bool
def edD (e : Ed) : Dt := .tup [.int e.1, .str (if e.2 = true then ("upper" : Str) else ("lower" : Str))]
def ehD (x : Ed × Hp3) : Dt := .tup [edD x.1, hpD x.2]
def lowE (k : Nat) (lo : Option Rat) (m : Mp) : List (Ed × Hp3) := match lo with
  | none => []
  | some l => [((k, false), mkH (-m.a) (-m.b) (m.e - l))]
def uppE (k : Nat) (hi : Option Rat) (m : Mp) : List (Ed × Hp3) := match hi with
  | none => []
  | some u => [((k, true), mkH m.a m.b (u - m.e))]
section
variable {st : List Cell} {Q : Vl → List Cell → Prop}
theorem edges_ok {k : Nat} {lo hi : Option Rat} {m : Mp} {n : Nat} (h0 : ¬ (m.a = 0 ∧ m.b = 0)) (hm : MZ n m) (hl : Zo n lo) (hh : Zo n hi) (hn : n ≤ 300000) (h : Q (.d (.lst ((lowE k lo m ++ uppE k hi m).map ehD))) st) :
    sp_edges_of [.d (.int k), .d (elD (.stop lo hi)), .d (mpD m)] st Q := by
  obtain ⟨⟨za, zb', zc⟩, zd, ze, zf⟩ := hm
  unfold sp_edges_of
  refine ⟨rfl, ?_⟩
  let S : List Cell → M := fun c => ⟨[some (.d (.int k)), some (.d (elD (.stop lo hi))), some (.d (mpD m)), some (.d (fr m.a)), some (.d (fr m.b)), some (.d (fr m.c)), some (.d (fr m.d)), some (.d (fr m.e)), some (.d (fr m.f)), some (.c st.length)], c⟩
  refine seq_to ⟨[some (.d (.int k)), some (.d (elD (.stop lo hi))), some (.d (mpD m)), some (.d (fr m.a)), some (.d (fr m.b)), some (.d (fr m.c)), some (.d (fr m.d)), some (.d (fr m.e)), some (.d (fr m.f)), none], st⟩ (fun K hK => ⟨rfl, hK⟩) ?_
  refine seq_to (S (st ++ [Cell.lst []])) (fun K hK => ⟨lineN rfl, hK⟩) ?_
  refine seq_to (S (st ++ [Cell.lst ((lowE k lo m).map ehD)])) (fun K hK => ?_) ?_
  · cases lo with
    | none => exact hK
    | some l =>
      have w := zb_sub m.e l
      have hl' := hl l rfl
      refine ifs_t (S (st ++ [Cell.lst []])) (fun K2 h2 => h2) ?_
      refine ⟨⟨_, getElem_last _ _⟩, lineN rfl, ?_⟩
      refine negative_ok ?_
      refine negative_ok ?_
      refine subtract_ok (x := m.e) (y := l) (zm (by omega)) ?_
      refine mkplane_ok (n := 2 * n) (fun z => h0 ⟨by grind, by grind⟩) (by rw [zb_neg]; omega) (by rw [zb_neg]; omega) (by omega) (by omega) ?_
      refine ⟨lineN rfl, onC_mk (getElem_last _ _) ⟨slt rfl, ?_⟩⟩
      dsimp only
      rw [set_last]
      exact hK
  refine seq_to (S (st ++ [Cell.lst ((lowE k lo m ++ uppE k hi m).map ehD)])) (fun K hK => ?_) ?_
  · cases hi with
    | none =>
      rw [show lowE k lo m ++ uppE k none m = lowE k lo m from List.append_nil _] at hK
      exact hK
    | some l =>
      have w := zb_sub l m.e
      have hl' := hh l rfl
      refine ifs_t (S (st ++ [Cell.lst ((lowE k lo m).map ehD)])) (fun K2 h2 => h2) ?_
      refine ⟨⟨_, getElem_last _ _⟩, lineN rfl, ?_⟩
      refine subtract_ok (x := l) (y := m.e) (zm (by omega)) ?_
      refine mkplane_ok (n := 2 * n) h0 (by omega) (by omega) (by omega) (by omega) ?_
      refine ⟨lineN rfl, onC_mk (getElem_last _ _) ⟨by cases lo <;> exact slt rfl, ?_⟩⟩
      dsimp only
      rw [set_last]
      rw [List.map_append] at hK
      exact hK
  refine Eq.mp (if_neg (Nat.lt_irrefl _)).symm (onC_mk (getElem_last _ _) ?_)
  show Q _ ((st ++ [_]).take st.length)
  rw [List.take_left]
  exact h
def edgesAt (k : Nat) (e : El) (m : Mp) : List (Ed × Hp3) := match e with
  | .stop lo hi => lowE k lo m ++ uppE k hi m
  | _ => []
def planesOf : Nat → Mp → List El → List (Ed × Hp3)
  | _, _, [] => []
  | k, m, e :: es => edgesAt k e m ++ planesOf (k + 1) (comp m (elM e)) es
theorem edgesAt_len (k : Nat) (e : El) (m : Mp) : (edgesAt k e m).length ≤ 2 := by
  cases e with
  | stop lo hi =>
    show (lowE k lo m ++ uppE k hi m).length ≤ 2
    rw [List.length_append]
    cases lo <;> cases hi <;> exact Nat.le_of_ble_eq_true rfl
  | _ => exact Nat.zero_le _
theorem nz_of_det {m : Mp} (h : det m = 1) : ¬ (m.a = 0 ∧ m.b = 0) := fun ⟨h1, h2⟩ => by
  unfold det at h
  rw [h1, h2] at h
  grind
end

end PG

set_option maxRecDepth 100000
set_option maxHeartbeats 4000000
namespace PG
open PySem PySem.Spec PyProof.Rows L2 RT
theorem lc_map {α : Type} (f h : α → Dt) {sl slw : List (Option Vl)} {g : Tgt} {te : DE} {all : List Dt} {K : List Dt → M → Prop} {st : List Cell} :
    ∀ {xs done : List α}, (∀ x ∈ xs, ∀ (C : Vl → M → Prop), (∀ sl', C (.d (h x)) ⟨sl', st⟩) → tgD g (.d (f x)) ⟨slw, st⟩ fun m1 => te m1 C) → done.length + xs.length ≤ 1000000 → K ((done ++ xs).map h) ⟨sl, st⟩ → dLcGo sl slw g dYes te all none K (xs.map f) (done.map h) st
  | [], done, _, _, hK => ⟨trivial, by rw [List.append_nil] at hK; exact hK⟩
  | x :: r, done, hs, hl, hK => ⟨trivial, hs x List.mem_cons_self _ fun sl' => by
    rw [List.length_cons] at hl
    refine ⟨by rw [List.length_map]; exact small_lt (by omega), ?_⟩
    have := lc_map f h (K := K) (all := all) (te := te) (g := g) (sl := sl) (slw := slw) (st := st) (xs := r) (done := done ++ [x]) (fun y hy => hs y (List.mem_cons_of_mem _ hy)) (by rw [List.length_append, List.length_singleton]; omega) (by rw [List.append_assoc]; exact hK)
    rw [List.map_append] at this
    exact this⟩
theorem dlc_map {α : Type} (f h : α → Dt) {xs : List α} {m : M} {g : Tgt} {t te : DE} {vs : List Nat} {Q : Vl → M → Prop} (ht : ∀ K : Vl → M → Prop, K (.d (.lst (xs.map f))) m → t m K)
    (hs : ∀ x ∈ xs, ∀ (C : Vl → M → Prop), (∀ sl', C (.d (h x)) ⟨sl', m.st⟩) → tgD g (.d (f x)) ⟨wipeD m.sl vs, m.st⟩ fun m1 => te m1 C) (hl : xs.length ≤ 1000000) (hK : Q (.d (.lst (xs.map h))) m) : dLc false (dAny t) g dYes te vs m Q :=
  ht _ (lc_map f h (done := []) hs (by simpa using hl) hK)
theorem append_st {i k : Nat} {te : DE} {E : DEnds} {m : M} {xs : List Dt} (d : Dt) (hv : m.sl[i]? = some (some (.c k))) (hc : m.st[k]? = some (.lst xs)) (ht : ∀ C : Vl → M → Prop, C (.d d) m → te m C) (hl : xs.length < sizeLine)
    (h : E.nx ⟨m.sl, m.st.set k (.lst (xs ++ [d]))⟩) : dDo (dMeth mAppend (dVar i) (dCons te dNil)) E m := by
  unfold dDo dMeth dVar
  rw [hv]
  refine ⟨⟨_, hc⟩, ht _ ?_⟩
  show onC m.st k _
  exact onC_mk hc ⟨hl, h⟩
theorem cut_take (xs : List Dt) (j : Nat) (hj : j ≤ xs.length) : RT.cutD xs none (some (j : Int)) = xs.take j := by
  unfold RT.cutD
  rw [HT.sIx_none, HT.sIx_nat, Nat.min_eq_left hj, List.drop_zero, Nat.sub_zero]
theorem cut_drop (xs : List Dt) (j : Nat) (hj : j ≤ xs.length) : RT.cutD xs (some (j : Int)) none = xs.drop j := by
  unfold RT.cutD
  rw [HT.sIx_none, HT.sIx_nat, Nat.min_eq_left hj, List.take_of_length_le (by rw [List.length_drop]; exact Nat.le_refl _)]
end PG

set_option maxRecDepth 100000
set_option maxHeartbeats 4000000
namespace PG
open PySem PySem.Spec PyProof.Rows L2 RT

def Rg (hs : List Hp3) (x : Ray) : Prop := ∀ g ∈ hs, valH g x ≤ (g.r : Rat)
def Dir (g : Hp3) : Prop := ¬ (g.p = 0 ∧ g.q = 0)
def dt (g k : Hp3) : Int := g.p * k.q - g.q * k.p
def dotI (g k : Hp3) : Int := g.p * k.p + g.q * k.q
def lin2 (p q : Rat) (x : Ray) : Rat := p * x.1 + q * x.2
theorem exists_max {α : Type} (P : α → Prop) [DecidablePred P] (f : α → Rat) : ∀ l : List α, (∀ x ∈ l, ¬ P x) ∨ ∃ m ∈ l, P m ∧ ∀ x ∈ l, P x → f x ≤ f m
  | [] => .inl fun _ h => nomatch h
  | a :: l => by
    rcases exists_max P f l with h | ⟨m, hm, pm, h⟩
    · by_cases pa : P a
      · refine .inr ⟨a, List.mem_cons_self, pa, fun x hx px => ?_⟩
        rcases List.mem_cons.mp hx with e | e
        · rw [e]; exact Rat.le_refl
        · exact (h x e px).elim
      · refine .inl fun x hx px => ?_
        rcases List.mem_cons.mp hx with e | e
        · rw [e] at px; exact pa px
        · exact h x e px
    · by_cases pa : P a ∧ f m ≤ f a
      · refine .inr ⟨a, List.mem_cons_self, pa.1, fun x hx px => ?_⟩
        rcases List.mem_cons.mp hx with e | e
        · rw [e]; exact Rat.le_refl
        · exact Rat.le_trans (h x e px) pa.2
      · refine .inr ⟨m, List.mem_cons_of_mem _ hm, pm, fun x hx px => ?_⟩
        rcases List.mem_cons.mp hx with e | e
        · rw [e] at px ⊢
          rcases Rat.le_total (a := f m) (b := f a) with z | z
          · exact (pa ⟨px, z⟩).elim
          · exact z
        · exact h x e px
theorem exists_min {α : Type} (P : α → Prop) [DecidablePred P] (f : α → Rat) (l : List α) : (∀ x ∈ l, ¬ P x) ∨ ∃ m ∈ l, P m ∧ ∀ x ∈ l, P x → f m ≤ f x := by
  rcases exists_max P (fun x => - f x) l with h | ⟨m, hm, pm, h⟩
  · exact .inl h
  · exact .inr ⟨m, hm, pm, fun x hx px => by have := h x hx px; grind⟩
theorem elim1 (l : List (Rat × Rat)) (h0 : ∀ c ∈ l, c.1 = 0 → 0 ≤ c.2) (h2 : ∀ c ∈ l, ∀ d ∈ l, 0 < c.1 → d.1 < 0 → 0 ≤ c.2 * (-d.1) + d.2 * c.1) : ∃ v : Rat, ∀ c ∈ l, c.1 * v ≤ c.2 := by
  rcases exists_max (fun c : Rat × Rat => c.1 < 0) (fun c => c.2 / c.1) l with hn | ⟨m, hm, pm, hmax⟩
  · rcases exists_min (fun c : Rat × Rat => 0 < c.1) (fun c => c.2 / c.1) l with hp | ⟨k, hk, pk, hmin⟩
    · refine ⟨0, fun c hc => ?_⟩
      have e : c.1 = 0 := by
        have a := hn c hc
        have b := hp c hc
        grind
      rw [e]
      have := h0 c hc e
      grind
    · refine ⟨k.2 / k.1, fun c hc => ?_⟩
      by_cases e : c.1 = 0
      · rw [e]
        have := h0 c hc e
        grind
      · have p : 0 < c.1 := by
          have a := hn c hc
          grind
        have := hmin c hc p
        have q : c.1 * (k.2 / k.1) ≤ c.1 * (c.2 / c.1) := Rat.mul_le_mul_of_nonneg_left this (Rat.le_of_lt p)
        have : c.1 * (c.2 / c.1) = c.2 := by grind
        grind
  · refine ⟨m.2 / m.1, fun c hc => ?_⟩
    by_cases e : c.1 = 0
    · rw [e]
      have := h0 c hc e
      grind
    · by_cases p : 0 < c.1
      · have w := h2 c hc m hm p pm
        have e1 : m.2 = m.1 * (m.2 / m.1) := by grind
        generalize m.2 / m.1 = v at *
        rw [e1] at w
        -- 0 ≤ (-m.1) * (c.2 - c.1 * v)
        have w2 : 0 ≤ (-m.1) * (c.2 - c.1 * v) := by grind
        have w3 : (-m.1) * 0 ≤ (-m.1) * (c.2 - c.1 * v) := by grind
        have := Rat.le_of_mul_le_mul_left w3 (by grind)
        grind
      · have n : c.1 < 0 := by grind
        have w := hmax c hc n
        have q : (-c.1) * (c.2 / c.1) ≤ (-c.1) * (m.2 / m.1) := Rat.mul_le_mul_of_nonneg_left w (by grind)
        have : c.1 * (c.2 / c.1) = c.2 := by grind
        grind

def sglB (p q : Rat) (g : Hp3) : Option Rat := if (g.p : Rat) * q - (g.q : Rat) * p = 0 ∧ 0 < (g.p : Rat) * p + (g.q : Rat) * q then some (((g.p : Rat) * p + (g.q : Rat) * q) / (dotI g g : Rat) * (g.r : Rat)) else none
def prW (p q : Rat) (g k : Hp3) : Option (Rat × Rat) := if dt g k = 0 then none else
  if (p * (k.q : Rat) - q * (k.p : Rat)) / (dt g k : Rat) ≤ 0 ∨ (q * (g.p : Rat) - p * (g.q : Rat)) / (dt g k : Rat) ≤ 0 then none
  else some ((p * (k.q : Rat) - q * (k.p : Rat)) / (dt g k : Rat), (q * (g.p : Rat) - p * (g.q : Rat)) / (dt g k : Rat))
def prB (p q : Rat) (g k : Hp3) : Option Rat := (prW p q g k).map fun w => w.1 * (g.r : Rat) + w.2 * (k.r : Rat)
def prs (p q : Rat) : List Hp3 → List (Option Rat)
  | [] => []
  | g :: r => r.map (prB p q g) ++ prs p q r
def bounds (p q : Rat) (hs : List Hp3) : List (Option Rat) := hs.map (sglB p q) ++ prs p q hs
theorem prs_mem {p q : Rat} {g k : Hp3} (hne : g ≠ k) : ∀ {hs : List Hp3}, g ∈ hs → k ∈ hs → prB p q g k ∈ prs p q hs ∨ prB p q k g ∈ prs p q hs
  | a :: r, hg, hk => by
    rcases List.mem_cons.mp hg with eg | hg <;> rcases List.mem_cons.mp hk with ek | hk
    · exact (hne (eg.trans ek.symm)).elim
    · exact .inl (List.mem_append_left _ (List.mem_map.mpr ⟨k, hk, by rw [eg]⟩))
    · exact .inr (List.mem_append_left _ (List.mem_map.mpr ⟨g, hg, by rw [ek]⟩))
    · rcases prs_mem hne hg hk with h | h
      · exact .inl (List.mem_append_right _ h)
      · exact .inr (List.mem_append_right _ h)
theorem mem_prs {p q : Rat} {o : Option Rat} : ∀ {hs : List Hp3}, o ∈ prs p q hs → ∃ g ∈ hs, ∃ k ∈ hs, o = prB p q g k
  | a :: r, h => by
    rcases List.mem_append.mp (show o ∈ r.map (prB p q a) ++ prs p q r from h) with h | h
    · obtain ⟨k, hk, rfl⟩ := List.mem_map.mp h
      exact ⟨a, List.mem_cons_self, k, List.mem_cons_of_mem _ hk, rfl⟩
    · obtain ⟨g, hg, k, hk, e⟩ := mem_prs h
      exact ⟨g, List.mem_cons_of_mem _ hg, k, List.mem_cons_of_mem _ hk, e⟩
theorem castI {a b : Int} : ((a * b : Int) : Rat) = (a : Rat) * (b : Rat) := Rat.intCast_mul ..
theorem dt_cast (g k : Hp3) : (dt g k : Rat) = (g.p : Rat) * (k.q : Rat) - (g.q : Rat) * (k.p : Rat) := by
  unfold dt
  rw [Rat.intCast_sub, castI, castI]
theorem dot_cast (g k : Hp3) : (dotI g k : Rat) = (g.p : Rat) * (k.p : Rat) + (g.q : Rat) * (k.q : Rat) := by
  unfold dotI
  rw [Rat.intCast_add, castI, castI]
theorem sq_pos {a : Rat} (h : a ≠ 0) : 0 < a * a := by
  rcases Rat.le_total (a := 0) (b := a) with z | z
  · have : 0 < a := by grind
    exact Rat.mul_pos this this
  · have : 0 < -a := by grind
    have := Rat.mul_pos this this
    grind
theorem sq_nn (a : Rat) : 0 ≤ a * a := by
  by_cases h : a = 0
  · rw [h]; grind
  · exact Rat.le_of_lt (sq_pos h)
theorem n2_pos {p q : Rat} (h : ¬ (p = 0 ∧ q = 0)) : 0 < p * p + q * q := by
  have a := sq_nn p
  have b := sq_nn q
  by_cases hp : p = 0
  · have hq : q ≠ 0 := fun e => h ⟨hp, e⟩
    have := sq_pos hq
    grind
  · have := sq_pos hp
    grind
theorem Dir.rat {g : Hp3} (h : Dir g) : ¬ ((g.p : Rat) = 0 ∧ (g.q : Rat) = 0) := fun ⟨a, b⟩ => h ⟨Rat.intCast_eq_zero_iff.mp a, Rat.intCast_eq_zero_iff.mp b⟩
theorem Dir.pos {g : Hp3} (h : Dir g) : (0 : Rat) < (dotI g g : Rat) := by
  rw [dot_cast]
  exact n2_pos h.rat
theorem mul_le {a b c : Rat} (h : b ≤ c) (ha : 0 ≤ a) : a * b ≤ a * c := Rat.mul_le_mul_of_nonneg_left h ha
theorem of_mul_le {a b c : Rat} (h : a * b ≤ a * c) (ha : 0 < a) : b ≤ c := Rat.le_of_mul_le_mul_left h ha
end PG

set_option maxRecDepth 100000
set_option maxHeartbeats 4000000
namespace PG
open PySem PySem.Spec PyProof.Rows L2 RT
theorem prW_some {p q : Rat} {g k : Hp3} {w : Rat × Rat} (h : prW p q g k = some w) : dt g k ≠ 0 ∧ 0 < w.1 ∧ 0 < w.2 ∧ w.1 * (g.p : Rat) + w.2 * (k.p : Rat) = p ∧ w.1 * (g.q : Rat) + w.2 * (k.q : Rat) = q := by
  unfold prW at h
  by_cases h0 : dt g k = 0
  · rw [if_pos h0] at h
    cases h
  · rw [if_neg h0] at h
    split at h
    · cases h
    · rename_i hn
      cases h
      have hd : (dt g k : Rat) ≠ 0 := fun e => h0 (Rat.intCast_eq_zero_iff.mp e)
      have e := dt_cast g k
      generalize (dt g k : Rat) = d at *
      refine ⟨h0, by grind, by grind, ?_, ?_⟩
      · show (p * (k.q : Rat) - q * (k.p : Rat)) / d * (g.p : Rat) + (q * (g.p : Rat) - p * (g.q : Rat)) / d * (k.p : Rat) = p
        grind
      · show (p * (k.q : Rat) - q * (k.p : Rat)) / d * (g.q : Rat) + (q * (g.p : Rat) - p * (g.q : Rat)) / d * (k.q : Rat) = q
        grind
theorem bound_ok {p q : Rat} {hs : List Hp3} (hd : ∀ g ∈ hs, Dir g) {x : Ray} (hx : Rg hs x) {b : Rat} (hb : some b ∈ bounds p q hs) : lin2 p q x ≤ b := by
  rcases List.mem_append.mp hb with h | h
  · obtain ⟨g, hg, e⟩ := List.mem_map.mp h
    unfold sglB at e
    split at e
    · rename_i hc
      cases e
      have hp := (hd g hg).pos
      have e := dot_cast g g
      have hx' := hx g hg
      unfold valH at hx'
      unfold lin2
      generalize (dotI g g : Rat) = d at *
      generalize (g.p : Rat) = gp at *
      generalize (g.q : Rat) = gq at *
      generalize (g.r : Rat) = gr at *
      -- p = t gp, q = t gq with t = along / d
      have t0 : 0 < (gp * p + gq * q) / d := by
        rw [Rat.div_def]
        exact Rat.mul_pos hc.2 (Rat.inv_pos.mpr hp)
      have e1 : (gp * p + gq * q) / d * gp = p := by grind
      have e2 : (gp * p + gq * q) / d * gq = q := by grind
      generalize (gp * p + gq * q) / d = t at *
      have := mul_le hx' (Rat.le_of_lt t0)
      have e3 : p * x.1 + q * x.2 = t * (gp * x.1 + gq * x.2) := by
        rw [← e1, ← e2]
        grind
      rw [e3]
      exact this
    · cases e
  · obtain ⟨g, hg, k, hk, e⟩ := mem_prs h
    unfold prB at e
    cases hw : prW p q g k with
    | none =>
      rw [hw] at e
      cases e
    | some w =>
      rw [hw] at e
      obtain ⟨_, w1, w2, e1, e2⟩ := prW_some hw
      have e' : b = w.1 * (g.r : Rat) + w.2 * (k.r : Rat) := Option.some.inj e
      rw [e']
      have a1 := mul_le (hx g hg) (Rat.le_of_lt w1)
      have a2 := mul_le (hx k hk) (Rat.le_of_lt w2)
      unfold valH at a1 a2
      unfold lin2
      rw [← e1, ← e2]
      grind
theorem reach {p q : Rat} (hpq : ¬ (p = 0 ∧ q = 0)) {hs : List Hp3} (hd : ∀ g ∈ hs, Dir g) {x0 : Ray} (hx : Rg hs x0) {m : Rat} (h1 : lin2 p q x0 ≤ m) (h2 : ∀ b, some b ∈ bounds p q hs → m ≤ b) : ∃ x, Rg hs x ∧ lin2 p q x = m := by
  have hn := n2_pos hpq
  obtain ⟨n2, en⟩ : ∃ n2, p * p + q * q = n2 := ⟨_, rfl⟩
  rw [en] at hn
  -- what a half-plane asks of the second coordinate
  have key : ∃ v : Rat, ∀ c ∈ hs.map (fun g : Hp3 => (((g.q : Rat) * p - (g.p : Rat) * q, (g.r : Rat) * n2 - ((g.p : Rat) * p + (g.q : Rat) * q) * m) : Rat × Rat)), c.1 * v ≤ c.2 := by
    refine elim1 _ (fun c hc e => ?_) fun c hc d hd' pc nd => ?_
    · obtain ⟨g, hg, rfl⟩ := List.mem_map.mp hc
      dsimp only at e ⊢
      have hxg := hx g hg
      have hdg := (hd g hg).rat
      have hpos := (hd g hg).pos
      have hb : 0 < (g.p : Rat) * p + (g.q : Rat) * q → m ≤ ((g.p : Rat) * p + (g.q : Rat) * q) / (dotI g g : Rat) * (g.r : Rat) := fun ha => by
        refine h2 _ (List.mem_append_left _ (List.mem_map.mpr ⟨g, hg, ?_⟩))
        unfold sglB
        rw [if_pos ⟨by grind, ha⟩]
      have ed := dot_cast g g
      unfold valH at hxg
      unfold lin2 at h1
      generalize (dotI g g : Rat) = d at *
      generalize (g.p : Rat) = gp at *
      generalize (g.q : Rat) = gq at *
      generalize (g.r : Rat) = gr at *
      obtain ⟨A, eA⟩ : ∃ A, gp * p + gq * q = A := ⟨_, rfl⟩
      rw [eA] at hb ⊢
      have id : A * A = d * n2 := by grind
      have nA : A ≠ 0 := fun z => by
        have := Rat.mul_pos hpos hn
        rw [← id, z] at this
        grind
      by_cases pA : 0 < A
      · have := mul_le (hb pA) (Rat.le_of_lt pA)
        have e3 : A * (A / d * gr) = gr * n2 := by
          have : A * (A / d * gr) = (A * A) / d * gr := by grind
          rw [this, id]
          grind
        rw [e3] at this
        grind
      · have nA' : 0 ≤ -A := by grind
        have a1 := mul_le h1 nA'
        -- A u0 = n2 (g x0) as the other coordinate vanishes
        have e4 : A * (p * x0.1 + q * x0.2) = n2 * (gp * x0.1 + gq * x0.2) := by grind
        have a2 := mul_le hxg (Rat.le_of_lt hn)
        grind
    · obtain ⟨g, hg, rfl⟩ := List.mem_map.mp hc
      obtain ⟨k, hk, rfl⟩ := List.mem_map.mp hd'
      dsimp only at pc nd ⊢
      have hxg := hx g hg
      have hxk := hx k hk
      have hne : g ≠ k := fun e => by
        rw [e] at pc
        grind
      have hb : 0 < (dt k g : Rat) → m ≤ (((k.q : Rat) * p - (k.p : Rat) * q) * (g.r : Rat) - ((g.q : Rat) * p - (g.p : Rat) * q) * (k.r : Rat)) / (dt g k : Rat) := fun hdt => by
        have e1 := dt_cast g k
        have e2 := dt_cast k g
        have hgk : (dt g k : Rat) < 0 := by grind
        have ngk : dt g k ≠ 0 := fun z => by rw [z] at hgk; exact absurd hgk (by decide)
        have nkg : dt k g ≠ 0 := fun z => by rw [z] at hdt; exact absurd hdt (by decide)
        have ekg : (dt k g : Rat) = - (dt g k : Rat) := by grind
        rcases prs_mem (p := p) (q := q) hne hg hk with h | h
        · refine h2 _ (List.mem_append_right _ ?_)
          have : prB p q g k = some ((((k.q : Rat) * p - (k.p : Rat) * q) * (g.r : Rat) - ((g.q : Rat) * p - (g.p : Rat) * q) * (k.r : Rat)) / (dt g k : Rat)) := by
            unfold prB prW
            generalize (dt g k : Rat) = d at *
            have w1 : 0 < (p * (k.q : Rat) - q * (k.p : Rat)) / d := by
              have : (p * (k.q : Rat) - q * (k.p : Rat)) / d = (-(p * (k.q : Rat) - q * (k.p : Rat))) / (-d) := by grind
              rw [this, Rat.div_def]
              exact Rat.mul_pos (by grind) (Rat.inv_pos.mpr (by grind))
            have w2 : 0 < (q * (g.p : Rat) - p * (g.q : Rat)) / d := by
              have : (q * (g.p : Rat) - p * (g.q : Rat)) / d = (-(q * (g.p : Rat) - p * (g.q : Rat))) / (-d) := by grind
              rw [this, Rat.div_def]
              exact Rat.mul_pos (by grind) (Rat.inv_pos.mpr (by grind))
            rw [if_neg ngk, if_neg (by grind)]
            show some _ = some _
            congr 1
            grind
          rw [← this]
          exact h
        · refine h2 _ (List.mem_append_right _ ?_)
          have : prB p q k g = some ((((k.q : Rat) * p - (k.p : Rat) * q) * (g.r : Rat) - ((g.q : Rat) * p - (g.p : Rat) * q) * (k.r : Rat)) / (dt g k : Rat)) := by
            unfold prB prW
            rw [ekg] at hdt ⊢
            generalize (dt g k : Rat) = d at *
            have w1 : 0 < (p * (g.q : Rat) - q * (g.p : Rat)) / (-d) := by
              rw [Rat.div_def]
              exact Rat.mul_pos (by grind) (Rat.inv_pos.mpr (by grind))
            have w2 : 0 < (q * (k.p : Rat) - p * (k.q : Rat)) / (-d) := by
              rw [Rat.div_def]
              exact Rat.mul_pos (by grind) (Rat.inv_pos.mpr (by grind))
            rw [if_neg nkg, if_neg (by grind)]
            show some _ = some _
            congr 1
            grind
          rw [← this]
          exact h
      have e1 := dt_cast g k
      have e2 := dt_cast k g
      unfold valH at hxg hxk
      unfold lin2 at h1
      generalize (dt g k : Rat) = d at *
      generalize (dt k g : Rat) = d' at *
      generalize (g.p : Rat) = gp at *
      generalize (g.q : Rat) = gq at *
      generalize (g.r : Rat) = gr at *
      generalize (k.p : Rat) = kp at *
      generalize (k.q : Rat) = kq at *
      generalize (k.r : Rat) = kr at *
      obtain ⟨B, eB⟩ : ∃ B, gq * p - gp * q = B := ⟨_, rfl⟩
      obtain ⟨C, eC⟩ : ∃ C, kq * p - kp * q = C := ⟨_, rfl⟩
      rw [eB] at pc hb
      rw [eC] at nd hb
      have idW : (gp * p + gq * q) * (-C) + (kp * p + kq * q) * B = n2 * d' := by grind
      have goal2 : m * (n2 * d') ≤ n2 * (gr * (-C) + kr * B) := by
        by_cases hdt : 0 < d'
        · have w := mul_le (hb hdt) (Rat.le_of_lt (Rat.mul_pos hn hdt))
          have e3 : n2 * d' * ((C * gr - B * kr) / d) = n2 * (gr * (-C) + kr * B) := by
            have : d' = -d := by grind
            rw [this]
            have : d ≠ 0 := by grind
            grind
          rw [e3] at w
          grind
        · have nn : 0 ≤ -(n2 * d') := by
            have := mul_le (show (0 : Rat) ≤ -d' by grind) (Rat.le_of_lt hn)
            grind
          have w := mul_le h1 nn
          have a1 := mul_le hxg (show 0 ≤ n2 * (-C) by
            have := mul_le (show (0 : Rat) ≤ -C by grind) (Rat.le_of_lt hn)
            grind)
          have a2 := mul_le hxk (show 0 ≤ n2 * B by
            have := mul_le (show (0 : Rat) ≤ B by grind) (Rat.le_of_lt hn)
            grind)
          have e5 : n2 * d' * (p * x0.1 + q * x0.2) = n2 * (-C) * (gp * x0.1 + gq * x0.2) + n2 * B * (kp * x0.1 + kq * x0.2) := by grind
          have w' : n2 * d' * m ≤ n2 * d' * (p * x0.1 + q * x0.2) := by
            clear e5 a1 a2 idW hb
            generalize p * x0.1 + q * x0.2 = U at *
            generalize n2 * d' = V at *
            grind
          rw [e5] at w'
          clear e5 w nn idW hb eB eC e1 e2
          generalize gp * x0.1 + gq * x0.2 = U at *
          generalize kp * x0.1 + kq * x0.2 = V at *
          grind
      have fin : (gr * n2 - (gp * p + gq * q) * m) * (-C) + (kr * n2 - (kp * p + kq * q) * m) * B = n2 * (gr * (-C) + kr * B) - m * (n2 * d') := by
        rw [← idW]
        clear idW goal2 hb e1 e2 eB eC
        grind
      rw [eB, eC, fin]
      clear fin idW hb
      grind
  obtain ⟨v, hv⟩ := key
  refine ⟨((p * m - q * v) / n2, (q * m + p * v) / n2), fun g hg => ?_, ?_⟩
  · have := hv _ (List.mem_map.mpr ⟨g, hg, rfl⟩)
    dsimp only at this
    unfold valH
    generalize (g.p : Rat) = gp at *
    generalize (g.q : Rat) = gq at *
    generalize (g.r : Rat) = gr at *
    refine of_mul_le (a := n2) ?_ hn
    have e : n2 * (gp * ((p * m - q * v) / n2) + gq * ((q * m + p * v) / n2)) = gp * (p * m - q * v) + gq * (q * m + p * v) := by grind
    show n2 * (gp * ((p * m - q * v) / n2) + gq * ((q * m + p * v) / n2)) ≤ _
    rw [e]
    grind
  · unfold lin2
    show p * ((p * m - q * v) / n2) + q * ((q * m + p * v) / n2) = m
    have e : p * ((p * m - q * v) / n2) + q * ((q * m + p * v) / n2) = (p * p + q * q) * m / n2 := by grind
    rw [e, en]
    grind
end PG

set_option maxRecDepth 100000
set_option maxHeartbeats 4000000
namespace PG
open PySem PySem.Spec PyProof.Rows L2 RT

def ab (a : Int) : Int := if a < 0 then -a else a
def n1 (g : Hp3) : Int := ab g.p + ab g.q
def oppW (g k : Hp3) : Option (Int × Int) := if dt g k ≠ 0 ∨ 0 ≤ dotI g k then none else some (n1 k / (Int.gcd (n1 k) (n1 g) : Int), n1 g / (Int.gcd (n1 k) (n1 g) : Int))
def w3 (g k l : Hp3) : Int × Int × Int := if dt k l < 0 then (-dt k l, -dt l g, -dt g k) else (dt k l, dt l g, dt g k)
def gcd3 (a b c : Int) : Int := (Int.gcd (Int.gcd a b : Int) c : Int)
def triW (g k l : Hp3) : Option (Int × Int × Int) := if (w3 g k l).1 ≤ 0 ∨ (w3 g k l).2.1 ≤ 0 ∨ (w3 g k l).2.2 ≤ 0 then none else
  some ((w3 g k l).1 / gcd3 (w3 g k l).1 (w3 g k l).2.1 (w3 g k l).2.2, (w3 g k l).2.1 / gcd3 (w3 g k l).1 (w3 g k l).2.1 (w3 g k l).2.2, (w3 g k l).2.2 / gcd3 (w3 g k l).1 (w3 g k l).2.1 (w3 g k l).2.2)
theorem ab_nat (a : Int) : ab a = (a.natAbs : Int) := abs_eq a
theorem n1_pos {g : Hp3} (h : Dir g) : 0 < n1 g := by
  unfold n1 ab
  unfold Dir at h
  split <;> split <;> omega
theorem dt_swap (g k : Hp3) : dt k g = - dt g k := by
  unfold dt
  grind
theorem dot_dir {g k : Hp3} (h : dotI g k < 0) : Dir g ∧ Dir k := by
  unfold dotI at h
  exact ⟨fun ⟨a, b⟩ => by rw [a, b] at h; omega, fun ⟨a, b⟩ => by rw [a, b] at h; omega⟩
theorem opp_lam {g k : Hp3} (h0 : dt g k = 0) (h1 : dotI g k < 0) : ∃ t : Rat, 0 < t ∧ (k.p : Rat) = - t * (g.p : Rat) ∧ (k.q : Rat) = - t * (g.q : Rat) := by
  have hg := (dot_dir h1).1.pos
  have e0 := dt_cast g k
  rw [h0] at e0
  have e1 := dot_cast g k
  have e2 := dot_cast g g
  have h1' : (dotI g k : Rat) < 0 := Rat.intCast_neg_iff.mpr h1
  refine ⟨-(dotI g k : Rat) / (dotI g g : Rat), ?_, ?_, ?_⟩
  · rw [Rat.div_def]
    exact Rat.mul_pos (by grind) (Rat.inv_pos.mpr hg)
  · generalize (dotI g g : Rat) = d at *
    generalize (dotI g k : Rat) = e at *
    have : ((0 : Int) : Rat) = 0 := rfl
    grind
  · generalize (dotI g g : Rat) = d at *
    generalize (dotI g k : Rat) = e at *
    have : ((0 : Int) : Rat) = 0 := rfl
    grind
theorem ab_cast (a : Int) : (ab a : Rat) = if (a : Rat) < 0 then -(a : Rat) else (a : Rat) := by
  unfold ab
  by_cases h : a < 0
  · rw [if_pos h, if_pos (Rat.intCast_neg_iff.mpr h), Rat.intCast_neg]
  · rw [if_neg h, if_neg (fun z => h (Rat.intCast_neg_iff.mp z))]
theorem n1_cast (g : Hp3) : (n1 g : Rat) = (ab g.p : Rat) + (ab g.q : Rat) := by
  unfold n1
  rw [Rat.intCast_add]
theorem ab_mul {t a b : Rat} (ht : 0 < t) (h : b = - t * a) : (if b < 0 then -b else b) = t * (if a < 0 then -a else a) := by
  by_cases h0 : a = 0
  · subst h0
    have : b = 0 := by grind
    subst this
    simp
  · by_cases n : a < 0
    · have w := Rat.mul_pos ht (show 0 < -a by grind)
      rw [if_pos n, if_neg (by grind)]
      grind
    · have w := Rat.mul_pos ht (show 0 < a by grind)
      rw [if_neg n, if_pos (by grind)]
      grind
theorem opp_n1 {g k : Hp3} {t : Rat} (ht : 0 < t) (h1 : (k.p : Rat) = - t * (g.p : Rat)) (h2 : (k.q : Rat) = - t * (g.q : Rat)) : (n1 k : Rat) = t * (n1 g : Rat) := by
  rw [n1_cast, n1_cast, ab_cast, ab_cast, ab_cast, ab_cast, ab_mul ht h1, ab_mul ht h2]
  grind
theorem oppW_some {g k : Hp3} {a b : Int} (h : oppW g k = some (a, b)) : dt g k = 0 ∧ dotI g k < 0 ∧ 0 < a ∧ 0 < b ∧ ∃ d : Int, 0 < d ∧ a * d = n1 k ∧ b * d = n1 g := by
  unfold oppW at h
  split at h
  · cases h
  · rename_i hn
    have h0 : dt g k = 0 := by
      by_cases z : dt g k = 0
      · exact z
      · exact (hn (.inl z)).elim
    have h1 : dotI g k < 0 := by
      have : ¬ 0 ≤ dotI g k := fun z => hn (.inr z)
      omega
    have pg := n1_pos (dot_dir h1).1
    have pk := n1_pos (dot_dir h1).2
    have dv1 : (Int.gcd (n1 k) (n1 g) : Int) ∣ n1 k := Int.gcd_dvd_left ..
    have dv2 : (Int.gcd (n1 k) (n1 g) : Int) ∣ n1 g := Int.gcd_dvd_right ..
    have dpos : 0 < (Int.gcd (n1 k) (n1 g) : Int) := by
      have : Int.gcd (n1 k) (n1 g) ≠ 0 := fun e => by
        have := (Int.gcd_eq_zero_iff.mp e).1
        omega
      omega
    generalize (Int.gcd (n1 k) (n1 g) : Int) = d at *
    cases h
    have e1 := Int.ediv_mul_cancel dv1
    have e2 := Int.ediv_mul_cancel dv2
    refine ⟨h0, h1, ?_, ?_, d, dpos, e1, e2⟩
    · rw [← e1] at pk
      exact Int.pos_of_mul_pos_right pk dpos
    · rw [← e2] at pg
      exact Int.pos_of_mul_pos_right pg dpos
where
  Int.pos_of_mul_pos_right {a d : Int} (h : 0 < a * d) (hd : 0 < d) : 0 < a := by
    rcases Int.lt_trichotomy a 0 with z | z | z
    · have := Int.mul_neg_of_neg_of_pos z hd
      omega
    · rw [z] at h
      omega
    · exact z
theorem mul_cancel_r {a b d : Rat} (hd : d ≠ 0) (h : a * d = b * d) : a = b := by
  have : a = a * d / d := by grind
  rw [this, h]
  grind
theorem oppW_dep {g k : Hp3} {a b : Int} (h : oppW g k = some (a, b)) : (a : Rat) * (g.p : Rat) + (b : Rat) * (k.p : Rat) = 0 ∧ (a : Rat) * (g.q : Rat) + (b : Rat) * (k.q : Rat) = 0 := by
  obtain ⟨h0, h1, pa, pb, d, hd, ea, eb⟩ := oppW_some h
  obtain ⟨t, ht, e1, e2⟩ := opp_lam h0 h1
  have en := opp_n1 ht e1 e2
  rw [← ea, ← eb, castI, castI] at en
  have hd' : (0 : Rat) < (d : Rat) := Rat.intCast_pos.mpr hd
  generalize (d : Rat) = d at *
  generalize (a : Rat) = a at *
  generalize (b : Rat) = b at *
  have : a = t * b := mul_cancel_r (show d ≠ 0 by grind) (by grind)
  rw [e1, e2, this]
  constructor <;> grind
theorem triW_some {g k l : Hp3} {a b c : Int} (h : triW g k l = some (a, b, c)) : 0 < a ∧ 0 < b ∧ 0 < c ∧ ∃ d : Int, d ≠ 0 ∧ a * d = dt k l ∧ b * d = dt l g ∧ c * d = dt g k := by
  unfold triW at h
  split at h
  · cases h
  · rename_i hn
    have p1 : 0 < (w3 g k l).1 := by
      have : ¬ (w3 g k l).1 ≤ 0 := fun z => hn (.inl z)
      omega
    have p2 : 0 < (w3 g k l).2.1 := by
      have : ¬ (w3 g k l).2.1 ≤ 0 := fun z => hn (.inr (.inl z))
      omega
    have p3 : 0 < (w3 g k l).2.2 := by
      have : ¬ (w3 g k l).2.2 ≤ 0 := fun z => hn (.inr (.inr z))
      omega
    obtain ⟨s, hs, s1, s2, s3⟩ : ∃ s : Int, s ≠ 0 ∧ (w3 g k l).1 * s = dt k l ∧ (w3 g k l).2.1 * s = dt l g ∧ (w3 g k l).2.2 * s = dt g k := by
      unfold w3
      split
      · exact ⟨-1, by decide, by dsimp only; omega, by dsimp only; omega, by dsimp only; omega⟩
      · exact ⟨1, by decide, by dsimp only; omega, by dsimp only; omega, by dsimp only; omega⟩
    generalize (w3 g k l).1 = x at *
    generalize (w3 g k l).2.1 = y at *
    generalize (w3 g k l).2.2 = z at *
    have dv : (Int.gcd x y : Int) ∣ x ∧ (Int.gcd x y : Int) ∣ y := ⟨Int.gcd_dvd_left .., Int.gcd_dvd_right ..⟩
    have dv0 : gcd3 x y z ∣ (Int.gcd x y : Int) := Int.gcd_dvd_left ..
    have dv1 : gcd3 x y z ∣ x := Int.dvd_trans dv0 dv.1
    have dv2 : gcd3 x y z ∣ y := Int.dvd_trans dv0 dv.2
    have dv3 : gcd3 x y z ∣ z := Int.gcd_dvd_right ..
    have dpos : 0 < gcd3 x y z := by
      have : Int.gcd (Int.gcd x y : Int) z ≠ 0 := fun e => by
        have := (Int.gcd_eq_zero_iff.mp e).2
        omega
      unfold gcd3
      omega
    generalize gcd3 x y z = d at *
    cases h
    have e1 := Int.ediv_mul_cancel dv1
    have e2 := Int.ediv_mul_cancel dv2
    have e3 := Int.ediv_mul_cancel dv3
    refine ⟨?_, ?_, ?_, d * s, ?_, ?_, ?_, ?_⟩
    · rw [← e1] at p1
      exact oppW_some.Int.pos_of_mul_pos_right p1 dpos
    · rw [← e2] at p2
      exact oppW_some.Int.pos_of_mul_pos_right p2 dpos
    · rw [← e3] at p3
      exact oppW_some.Int.pos_of_mul_pos_right p3 dpos
    · exact Int.mul_ne_zero (by omega) hs
    · rw [← Int.mul_assoc, e1, s1]
    · rw [← Int.mul_assoc, e2, s2]
    · rw [← Int.mul_assoc, e3, s3]
theorem triW_dep {g k l : Hp3} {a b c : Int} (h : triW g k l = some (a, b, c)) : (a : Rat) * (g.p : Rat) + (b : Rat) * (k.p : Rat) + (c : Rat) * (l.p : Rat) = 0 ∧ (a : Rat) * (g.q : Rat) + (b : Rat) * (k.q : Rat) + (c : Rat) * (l.q : Rat) = 0 := by
  obtain ⟨_, _, _, d, hd, e1, e2, e3⟩ := triW_some h
  have hd' : (d : Rat) ≠ 0 := fun z => hd (Rat.intCast_eq_zero_iff.mp z)
  have f1 : (a : Rat) * (d : Rat) = (dt k l : Rat) := by rw [← castI, e1]
  have f2 : (b : Rat) * (d : Rat) = (dt l g : Rat) := by rw [← castI, e2]
  have f3 : (c : Rat) * (d : Rat) = (dt g k : Rat) := by rw [← castI, e3]
  rw [dt_cast] at f1 f2 f3
  generalize (d : Rat) = d at *
  generalize (a : Rat) = a at *
  generalize (b : Rat) = b at *
  generalize (c : Rat) = c at *
  constructor
  · have : d * (a * (g.p : Rat) + b * (k.p : Rat) + c * (l.p : Rat)) = 0 := by grind
    grind
  · have : d * (a * (g.q : Rat) + b * (k.q : Rat) + c * (l.q : Rat)) = 0 := by grind
    grind

def C2 (g k : Hp3) : Prop := ∃ t : Rat, 0 < t ∧ (k.p : Rat) = - t * (g.p : Rat) ∧ (k.q : Rat) = - t * (g.q : Rat) ∧ Dir g ∧ t * (g.r : Rat) + (k.r : Rat) < 0
def C3 (g k l : Hp3) : Prop := ∃ a b c : Rat, 0 < a ∧ 0 < b ∧ 0 < c ∧ a * (g.p : Rat) + b * (k.p : Rat) + c * (l.p : Rat) = 0 ∧ a * (g.q : Rat) + b * (k.q : Rat) + c * (l.q : Rat) = 0 ∧ a * (g.r : Rat) + b * (k.r : Rat) + c * (l.r : Rat) < 0 ∧ dt g k ≠ 0
theorem helly : ∀ {hs : List Hp3}, (∀ g ∈ hs, Dir g) → (∃ x, Rg hs x) ∨ (∃ g ∈ hs, ∃ k ∈ hs, C2 g k) ∨ (∃ g ∈ hs, ∃ k ∈ hs, ∃ l ∈ hs, C3 g k l)
  | [], _ => .inl ⟨(0, 0), fun g hg => nomatch hg⟩
  | g :: r, hd => by
    rcases helly (hs := r) fun k hk => hd k (List.mem_cons_of_mem _ hk) with ⟨x0, hx⟩ | ⟨k, hk, l, hl, h⟩ | ⟨k, hk, l, hl, m, hm, h⟩
    · by_cases c : valH g x0 ≤ (g.r : Rat)
      · refine .inl ⟨x0, fun k hk => ?_⟩
        rcases List.mem_cons.mp hk with e | e
        · rw [e]; exact c
        · exact hx k e
      · have dg := (hd g List.mem_cons_self).rat
        have hpq : ¬ (-(g.p : Rat) = 0 ∧ -(g.q : Rat) = 0) := fun ⟨a, b⟩ => dg ⟨by grind, by grind⟩
        by_cases hall : ∀ b, some b ∈ bounds (-(g.p : Rat)) (-(g.q : Rat)) r → -(g.r : Rat) ≤ b
        · obtain ⟨x, hx1, hx2⟩ := reach hpq (fun k hk => hd k (List.mem_cons_of_mem _ hk)) hx (m := -(g.r : Rat)) (by unfold lin2; unfold valH at c; grind) hall
          refine .inl ⟨x, fun k hk => ?_⟩
          rcases List.mem_cons.mp hk with e | e
          · rw [e]
            unfold lin2 at hx2
            unfold valH
            grind
          · exact hx1 k e
        · obtain ⟨b, hb⟩ : ∃ b, ¬ (some b ∈ bounds (-(g.p : Rat)) (-(g.q : Rat)) r → -(g.r : Rat) ≤ b) := Classical.not_forall.mp hall
          obtain ⟨hb1, hb2⟩ := Classical.not_imp.mp hb
          refine .inr ?_
          rcases List.mem_append.mp hb1 with h | h
          · obtain ⟨k, hk, e⟩ := List.mem_map.mp h
            refine .inl ⟨k, List.mem_cons_of_mem _ hk, g, List.mem_cons_self, ?_⟩
            unfold sglB at e
            split at e
            · rename_i hc
              have e := Option.some.inj e
              have hp := (hd k (List.mem_cons_of_mem _ hk)).pos
              have e2 := dot_cast k k
              generalize (dotI k k : Rat) = d at *
              refine ⟨((k.p : Rat) * -(g.p : Rat) + (k.q : Rat) * -(g.q : Rat)) / d, ?_, ?_, ?_, hd k (List.mem_cons_of_mem _ hk), ?_⟩
              · rw [Rat.div_def]
                exact Rat.mul_pos hc.2 (Rat.inv_pos.mpr hp)
              · grind
              · grind
              · rw [e]
                grind
            · cases e
          · obtain ⟨k, hk, l, hl, e⟩ := mem_prs h
            refine .inr ⟨k, List.mem_cons_of_mem _ hk, l, List.mem_cons_of_mem _ hl, g, List.mem_cons_self, ?_⟩
            unfold prB at e
            cases hw : prW (-(g.p : Rat)) (-(g.q : Rat)) k l with
            | none =>
              rw [hw] at e
              cases e
            | some w =>
              rw [hw] at e
              obtain ⟨nd, w1, w2, f1, f2⟩ := prW_some hw
              have e' : b = w.1 * (k.r : Rat) + w.2 * (l.r : Rat) := Option.some.inj e
              exact ⟨w.1, w.2, 1, w1, w2, by decide, by grind, by grind, by grind, nd⟩
    · exact .inr (.inl ⟨k, List.mem_cons_of_mem _ hk, l, List.mem_cons_of_mem _ hl, h⟩)
    · exact .inr (.inr ⟨k, List.mem_cons_of_mem _ hk, l, List.mem_cons_of_mem _ hl, m, List.mem_cons_of_mem _ hm, h⟩)
end PG

set_option maxRecDepth 100000
set_option maxHeartbeats 4000000
namespace PG
open PySem PySem.Spec PyProof.Rows L2 RT
theorem lgm {a b : Int} {n m : Nat} (h1 : a.natAbs.log2 + 2 ≤ n) (h2 : b.natAbs.log2 + 2 ≤ m) : (a * b).natAbs.log2 + 3 ≤ n + m := by
  have := @log2_mul_le a.natAbs b.natAbs
  rw [Int.natAbs_mul]
  omega
theorem lga {a b : Int} {n : Nat} (h1 : a.natAbs.log2 ≤ n) (h2 : b.natAbs.log2 ≤ n) : (a + b).natAbs.log2 ≤ n + 1 := by
  have := log2_mono (Int.natAbs_add_le a b)
  have := @log2_add_le a.natAbs b.natAbs
  omega
theorem lgs {a b : Int} {n : Nat} (h1 : a.natAbs.log2 ≤ n) (h2 : b.natAbs.log2 ≤ n) : (a - b).natAbs.log2 ≤ n + 1 := by
  rw [Int.sub_eq_add_neg]
  exact lga h1 (by rw [Int.natAbs_neg]; exact h2)
theorem dt_z {n : Nat} {g k : Hp3} (hg : HZ n g) (hk : HZ n k) : (dt g k).natAbs.log2 + 2 ≤ 2 * n := by
  have a := lgm hg.1 hk.2.1
  have b := lgm hg.2.1 hk.1
  have := lgs (a := g.p * k.q) (b := g.q * k.p) (n := 2 * n - 3) (by omega) (by omega)
  unfold dt
  omega
theorem dot_z {n : Nat} {g k : Hp3} (hg : HZ n g) (hk : HZ n k) : (dotI g k).natAbs.log2 + 2 ≤ 2 * n := by
  have a := lgm hg.1 hk.1
  have b := lgm hg.2.1 hk.2.1
  have := lga (a := g.p * k.p) (b := g.q * k.q) (n := 2 * n - 3) (by omega) (by omega)
  unfold dotI
  omega
section
variable {st : List Cell} {Q : Vl → List Cell → Prop} {g k l : Hp3} {n : Nat}
theorem det_ok (hg : HZ n g) (hk : HZ n k) (hn : n ≤ 10000000) (h : Q (.d (.int (dt g k))) st) : sp_determinant [.d (hpD g), .d (hpD k)] st Q := by
  unfold sp_determinant
  obtain ⟨g1, g2, _⟩ := hg
  obtain ⟨k1, k2, _⟩ := hk
  exact ⟨rfl, mulok (zm (by omega)), mulok (zm (by omega)), trivial, tk h⟩
theorem prod_ok (hg : HZ n g) (hk : HZ n k) (hn : n ≤ 10000000) (h : Q (.d (.int (dotI g k))) st) : sp_product [.d (hpD g), .d (hpD k)] st Q := by
  unfold sp_product
  obtain ⟨g1, g2, _⟩ := hg
  obtain ⟨k1, k2, _⟩ := hk
  exact ⟨rfl, mulok (zm (by omega)), mulok (zm (by omega)), tk h⟩
theorem ifd {P : Prop} [Decidable P] {A B : Prop} (ht : P → A) (hf : ¬ P → B) : if decide P = true then A else B := by
  by_cases h : P
  · rw [if_pos (decide_eq_true h)]
    exact ht h
  · rw [if_neg (by simpa using h)]
    exact hf h
def ow2D : Option (Int × Int) → Dt
  | none => .non
  | some (a, b) => .tup [.int a, .int b]
def ow3D : Option (Int × Int × Int) → Dt
  | none => .non
  | some (a, b, c) => .tup [.int a, .int b, .int c]
theorem oppw_ok (hg : HZ n g) (hk : HZ n k) (hn : n ≤ 10000000) (h : Q (.d (ow2D (oppW g k))) st) : sp_opposite_weights [.d (hpD g), .d (hpD k)] st Q := by
  unfold sp_opposite_weights
  refine ⟨rfl, ?_⟩
  let S : Option Vl → Option Vl → Option Vl → M := fun z2 z3 z4 => ⟨[some (.d (hpD g)), some (.d (hpD k)), z2, z3, z4], st⟩
  by_cases c : dt g k ≠ 0 ∨ 0 ≤ dotI g k
  · have e : oppW g k = none := by unfold oppW; rw [if_pos c]
    rw [e] at h
    refine det_ok hg hk hn ⟨rfl, rfl, ?_⟩
    show if (!eqD (.int (dt g k)) (.int 0)) = true then _ else _
    rw [eqD_int]
    by_cases c0 : dt g k = 0
    · rw [decide_eq_true c0, if_neg (by decide)]
      refine prod_ok hg hk hn ⟨trivial, ?_⟩
      refine ifd (fun _ => tk h) fun z => ?_
      exact (z (c.resolve_left (fun z => z c0))).elim
    · rw [decide_eq_false c0]
      exact tk h
  · have c0 : dt g k = 0 := Classical.not_not.mp fun z => c (.inl z)
    have c1 : ¬ 0 ≤ dotI g k := fun z => c (.inr z)
    have e : oppW g k = some (n1 k / (Int.gcd (n1 k) (n1 g) : Int), n1 g / (Int.gcd (n1 k) (n1 g) : Int)) := by unfold oppW; rw [if_neg c]
    rw [e] at h
    refine guard_st (S none none none) (fun K hK => ?_) ?_
    · refine det_ok hg hk hn ⟨rfl, rfl, ?_⟩
      show if (!eqD (.int (dt g k)) (.int 0)) = true then _ else _
      rw [eqD_int, decide_eq_true c0, if_neg (by decide)]
      refine prod_ok hg hk hn ⟨trivial, ?_⟩
      show K (decide (0 ≤ dotI g k)) _
      rw [decide_eq_false c1]
      exact hK
    refine seq_to (S (some (.d (.int (n1 k)))) none none) (fun K hK => hK) ?_
    refine seq_to (S (some (.d (.int (n1 k)))) (some (.d (.int (n1 g)))) none) (fun K hK => hK) ?_
    have dpos : (Int.gcd (n1 k) (n1 g) : Int) ≠ 0 := by
      have hd : Int.gcd (n1 k) (n1 g) ≠ 0 := fun e => by
        have := (Int.gcd_eq_zero_iff.mp e).1
        have := n1_pos (dot_dir (show dotI g k < 0 by omega)).2
        omega
      omega
    refine gcd_ok ⟨dpos, dpos, lineN rfl, tk ?_⟩
    show Q (.d (.tup [.int ((n1 k).fdiv (Int.gcd (n1 k) (n1 g) : Int)), .int ((n1 g).fdiv (Int.gcd (n1 k) (n1 g) : Int))])) st
    rw [fdiv_pos (by omega), fdiv_pos (by omega)]
    exact h
theorem triw_ok (hg : HZ n g) (hk : HZ n k) (hl : HZ n l) (hn : n ≤ 10000000) (h : Q (.d (ow3D (triW g k l))) st) : sp_triple_weights [.d (hpD g), .d (hpD k), .d (hpD l)] st Q := by
  unfold sp_triple_weights
  refine ⟨rfl, ?_⟩
  let S : Option Vl → Option Vl → M := fun z3 z4 => ⟨[some (.d (hpD g)), some (.d (hpD k)), some (.d (hpD l)), z3, z4, none], st⟩
  have triD : ∀ a b c : Int, Dt.lst [.int a, .int b, .int c] = .lst ([a, b, c].map .int) := fun _ _ _ => rfl
  refine seq_to (S (some (.d (.lst ([dt k l, dt l g, dt g k].map .int)))) none) (fun K hK => ?_) ?_
  · refine det_ok hk hl hn ?_
    refine det_ok hl hg hn ?_
    refine det_ok hg hk hn ⟨lineN rfl, ?_⟩
    exact hK
  refine seq_to (S (some (.d (.lst ([(w3 g k l).1, (w3 g k l).2.1, (w3 g k l).2.2].map .int)))) none) (fun K hK => ?_) ?_
  · refine ⟨trivial, ifd (fun z => ?_) fun z => ?_⟩
    · refine dlc_map Dt.int (fun x => Dt.int (-x)) (xs := [dt k l, dt l g, dt g k]) (fun K2 h2 => ?_) (fun x hx C hC => ?_) (Nat.le_of_ble_eq_true rfl) ?_
      · exact h2
      · exact hC _
      · have e : w3 g k l = (-dt k l, -dt l g, -dt g k) := by unfold w3; rw [if_pos z]
        rw [e] at hK
        exact hK
    · have e : w3 g k l = (dt k l, dt l g, dt g k) := by unfold w3; rw [if_neg z]
      rw [e] at hK
      exact hK
  unfold triW at h
  generalize (w3 g k l).1 = x at *
  generalize (w3 g k l).2.1 = y at *
  generalize (w3 g k l).2.2 = z at *
  by_cases c : x ≤ 0 ∨ y ≤ 0 ∨ z ≤ 0
  · rw [if_pos c] at h
    refine ifs_t (S (some (.d (.lst ([x, y, z].map .int)))) none) (fun K hK => ?_) ?_
    · refine gx_any Dt.int (fun a => decide (a ≤ 0)) (xs := [x, y, z]) (fun a ha C hC => ?_) ?_
      · exact ⟨trivial, hC _⟩
      · have e : [x, y, z].any (fun a => decide (a ≤ 0)) = true := by
          simp only [List.any_cons, List.any_nil, Bool.or_eq_true, decide_eq_true_eq]
          rcases c with c | c | c
          · exact .inl c
          · exact .inr (.inl c)
          · exact .inr (.inr (.inl c))
        rw [e]
        exact hK
    · exact tk h
  · rw [if_neg c] at h
    refine guard_st (S (some (.d (.lst ([x, y, z].map .int)))) none) (fun K hK => ?_) ?_
    · refine gx_any Dt.int (fun a => decide (a ≤ 0)) (xs := [x, y, z]) (fun a ha C hC => ?_) ?_
      · exact ⟨trivial, hC _⟩
      · have e : [x, y, z].any (fun a => decide (a ≤ 0)) = false := by
          simp only [List.any_cons, List.any_nil, Bool.or_false, Bool.or_eq_false_iff, decide_eq_false_iff_not]
          exact ⟨fun a => c (.inl a), fun a => c (.inr (.inl a)), fun a => c (.inr (.inr a))⟩
        rw [e]
        exact hK
    have dpos : gcd3 x y z ≠ 0 := by
      have hd : Int.gcd (Int.gcd x y : Int) z ≠ 0 := fun e => by
        have := (Int.gcd_eq_zero_iff.mp e).2
        have : ¬ z ≤ 0 := fun a => c (.inr (.inr a))
        omega
      unfold gcd3
      omega
    have dpos2 : 0 < gcd3 x y z := by unfold gcd3 at *; omega
    refine seq_to (S (some (.d (.lst ([x, y, z].map .int)))) (some (.d (.int (gcd3 x y z))))) (fun K hK => ?_) ?_
    · refine gcd_ok ?_
      refine gcd_ok ?_
      exact hK
    unfold dRet dBi
    refine dlc_map Dt.int (fun a => Dt.int (a.fdiv (gcd3 x y z))) (xs := [x, y, z]) (fun K2 h2 => ?_) (fun x hx C hC => ?_) (Nat.le_of_ble_eq_true rfl) ?_
    · exact h2
    · exact ⟨dpos, hC _⟩
    · show Q (.d (.tup [.int (x.fdiv (gcd3 x y z)), .int (y.fdiv (gcd3 x y z)), .int (z.fdiv (gcd3 x y z))])) (st.take st.length)
      rw [fdiv_pos dpos2, fdiv_pos dpos2, fdiv_pos dpos2]
      exact tk h
end
end PG

set_option maxRecDepth 100000
set_option maxHeartbeats 4000000
namespace PG
open PySem PySem.Spec PyProof.Rows L2 RT
theorem range_app {β : Type} {i : Nat} {b : DS} {all : List Dt} {E : DEnds} (P : List β → M → Prop) (F : Nat → List β) {hi L : Nat}
    (hs : ∀ (k : Nat) (acc : List β) (m : M) (K : M → Prop), k < hi → acc.length + (F k).length ≤ L → P acc m → (∀ m', P (acc ++ F k) m' → K m') → b ⟨K, E.rt, E.nx, K⟩ ⟨m.sl.set i (some (.d (.int k))), m.st⟩) :
    ∀ (n k : Nat) (acc : List β) (m : M), k + n = hi → (acc ++ (List.range' k n).flatMap F).length ≤ L → P acc m → (∀ m', P (acc ++ (List.range' k n).flatMap F) m' → E.nx m') → dLoop (.nm i) b all none E (rangeD k n) m
  | 0, k, acc, m, _, _, p, h => ⟨trivial, h m (by simpa using p)⟩
  | n + 1, k, acc, m, hk, hL, p, h => ⟨trivial, by
    have e : acc ++ (List.range' k (n + 1)).flatMap F = (acc ++ F k) ++ (List.range' (k + 1) n).flatMap F := by
      rw [List.range'_succ, List.flatMap_cons, List.append_assoc]
    rw [e] at hL h
    refine hs k acc m _ (by omega) (by rw [List.length_append, List.length_append] at hL; omega) p fun m' p' => ?_
    have := range_app P F (i := i) (b := b) (all := all) (E := E) hs n (k + 1) (acc ++ F k) m' (by omega) hL p' h
    exact this⟩
theorem flatMap_len {α β : Type} {f : α → List β} {c : Nat} : ∀ {l : List α}, (∀ x ∈ l, (f x).length ≤ c) → (l.flatMap f).length ≤ l.length * c
  | [], _ => by simp
  | a :: l, h => by
    rw [List.flatMap_cons, List.length_append, List.length_cons, Nat.succ_mul]
    have h1 := h a List.mem_cons_self
    have h2 := flatMap_len (f := f) (c := c) (l := l) fun x hx => h x (List.mem_cons_of_mem _ hx)
    omega

def hAt (hs : List Hp3) (i : Nat) : Hp3 := hs.getD i ⟨1, 0, 0⟩
abbrev OSet := List Nat × Option (List Int)
def pr2 (hs : List Hp3) (i j : Nat) : OSet := ([i, j], (oppW (hAt hs i) (hAt hs j)).map fun w => [w.1, w.2])
def pr3 (hs : List Hp3) (i j k : Nat) : OSet := ([i, j, k], (triW (hAt hs i) (hAt hs j) (hAt hs k)).map fun w => [w.1, w.2.1, w.2.2])
def upTo (n k : Nat) : List Nat := List.range' (k + 1) (n - (k + 1))
def allP (hs : List Hp3) : List OSet := (List.range' 0 hs.length).flatMap fun i => (upTo hs.length i).flatMap fun j => [pr2 hs i j]
def allT (hs : List Hp3) : List OSet := (List.range' 0 hs.length).flatMap fun i => (upTo hs.length i).flatMap fun j => (upTo hs.length j).flatMap fun k => [pr3 hs i j k]
def osets (hs : List Hp3) : List (List Nat × List Int) := (allP hs ++ allT hs).filterMap fun s => s.2.map fun w => (s.1, w)
def ixD (ix : List Nat) : Dt := .tup (ix.map fun i : Nat => Dt.int (i : Int))
def wsD (ws : List Int) : Dt := .tup (ws.map .int)
def owD : Option (List Int) → Dt
  | none => .non
  | some w => wsD w
def osD (s : OSet) : Dt := .tup [ixD s.1, owD s.2]
def oD (s : List Nat × List Int) : Dt := .tup [ixD s.1, wsD s.2]
theorem upTo_len (n k : Nat) : (upTo n k).length ≤ n := by
  unfold upTo
  rw [List.length_range']
  omega
theorem allP_len (hs : List Hp3) : (allP hs).length ≤ hs.length * hs.length := by
  refine Nat.le_trans (flatMap_len (c := hs.length) fun i _ => ?_) (by rw [List.length_range']; exact Nat.le_refl _)
  refine Nat.le_trans (flatMap_len (c := 1) fun j _ => Nat.le_refl _) ?_
  have := upTo_len hs.length i
  omega
theorem allT_len (hs : List Hp3) : (allT hs).length ≤ hs.length * (hs.length * hs.length) := by
  refine Nat.le_trans (flatMap_len (c := hs.length * hs.length) fun i _ => ?_) (by rw [List.length_range']; exact Nat.le_refl _)
  refine Nat.le_trans (flatMap_len (c := hs.length) fun j _ => ?_) (Nat.mul_le_mul_right _ (upTo_len hs.length i))
  refine Nat.le_trans (flatMap_len (c := 1) fun k _ => Nat.le_refl _) ?_
  have := upTo_len hs.length j
  omega
theorem hAt_get {hs : List Hp3} {i : Nat} (h : i < hs.length) : hs[i]? = some (hAt hs i) := by
  unfold hAt
  rw [List.getD_eq_getElem?_getD, List.getElem?_eq_getElem h]
  rfl
theorem hAt_mem {hs : List Hp3} {i : Nat} (h : i < hs.length) : hAt hs i ∈ hs := List.mem_of_getElem? (hAt_get h)
theorem ow2_eq (o : Option (Int × Int)) : ow2D o = owD (o.map fun w => [w.1, w.2]) := by
  cases o <;> rfl
theorem ow3_eq (o : Option (Int × Int × Int)) : ow3D o = owD (o.map fun w => [w.1, w.2.1, w.2.2]) := by
  cases o <;> rfl
theorem opt_map : ∀ l : List OSet, (l.filter fun s => s.2.isSome).map osD = (l.filterMap fun s => s.2.map fun w => (s.1, w)).map oD
  | [] => rfl
  | (ix, none) :: l => opt_map l
  | (ix, some w) :: l => congrArg (osD (ix, some w) :: ·) (opt_map l)
theorem filt_own {α : Type} {f : α → Dt} {p : α → Bool} {sl slw : List (Option Vl)} {i : Nat} {lk : Option Nat} {tt : DT} {all : List Dt} {st : List Cell} {K : List Dt → M → Prop} (hlk : lockOk lk all ⟨sl, st⟩) (hi : i < slw.length)
    (ht : ∀ (a : α) (P : Bool → M → Prop), P (p a) ⟨slw.set i (some (.d (f a))), st⟩ → tt ⟨slw.set i (some (.d (f a))), st⟩ P) :
    ∀ (xs acc : List α), acc.length + xs.length ≤ 1000000 → K ((acc ++ xs.filter p).map f) ⟨sl, st⟩ → dLcGo sl slw (.nm i) tt (dVar i) all lk K (xs.map f) (acc.map f) st
  | [], acc, _, h => ⟨hlk, by rw [List.filter_nil, List.append_nil] at h; exact h⟩
  | x :: xs, acc, hl, h => by
    rw [List.length_cons] at hl
    have hlk' := hlk
    refine ⟨hlk', ht x _ ?_⟩
    have hv : (slw.set i (some (.d (f x))))[i]? = some (some (.d (f x))) := by simp [hi]
    cases hp : p x with
    | true =>
      rw [if_pos rfl]
      unfold dVar
      simp only [hv]
      refine ⟨by rw [List.length_map]; exact small_lt (by omega), ?_⟩
      have := filt_own (all := all) (K := K) hlk hi ht xs (acc ++ [x]) (by rw [List.length_append, List.length_singleton]; omega) (by rw [List.append_assoc]; rw [List.filter_cons, if_pos hp] at h; exact h)
      rw [List.map_append] at this
      exact this
    | false =>
      exact filt_own (K := K) hlk hi ht xs acc (by omega) (by rw [List.filter_cons, if_neg (by rw [hp]; decide)] at h; exact h)
section
variable {st : List Cell} {Q : Vl → List Cell → Prop} {hs : List Hp3} {n : Nat}
theorem osets_ok (hg : ∀ g ∈ hs, HZ n g) (hn : n ≤ 10000000) (hl : hs.length ≤ 45) (h : Q (.d (.lst ((osets hs).map oD))) st) : sp_opposing_sets [.d (.lst (hs.map hpD))] st Q := by
  unfold sp_opposing_sets
  refine ⟨rfl, ?_⟩
  let S : Option Vl → Option Vl → Option Vl → List OSet → M := fun z3 z4 z5 acc => ⟨[some (.d (.lst (hs.map hpD))), some (.d (.int hs.length)), some (.c st.length), z3, z4, z5, none], st ++ [Cell.lst (acc.map osD)]⟩
  have hP : (allP hs).length ≤ 2025 := Nat.le_trans (allP_len hs) (Nat.mul_le_mul hl hl)
  have hT : (allT hs).length ≤ 91125 := Nat.le_trans (allT_len hs) (Nat.mul_le_mul hl (Nat.mul_le_mul hl hl))
  refine seq_to ⟨[some (.d (.lst (hs.map hpD))), some (.d (.int hs.length)), none, none, none, none, none], st⟩ (fun K hK => ?_) ?_
  · show K ⟨[_, some (.d (.int ((hs.map hpD).length : Int))), none, none, none, none, none], st⟩
    rw [List.length_map]
    exact hK
  refine seq_to (S none none none []) (fun K hK => ⟨lineN rfl, hK⟩) ?_
  have sm : ∀ a b : Nat, a ≤ 100 → b ≤ 100 → small62 (a : Int) ∧ small62 (b : Int) := fun a b ha hb => ⟨⟨by omega, by omega⟩, ⟨by omega, by omega⟩⟩
  have at_ : ∀ i, i < hs.length → atI (hs.map hpD) (i : Int) = some (hpD (hAt hs i)) := fun i hi => atI_map (f := hpD) (hAt_get hi)
  have rg : ∀ k : Nat, k < hs.length → rangeD (((k : Nat) : Int) + 1) (((hs.length : Nat) : Int) - (((k : Nat) : Int) + 1)).toNat = rangeD ((k + 1 : Nat) : Int) (hs.length - (k + 1)) := fun k hk => by
    congr 1
    omega
  refine seq_mid (fun m => ∃ z3 z4, m = S z3 z4 none (allP hs)) (fun K hK => ?_) ?_
  · refine ⟨(sm hs.length hs.length (by omega) (by omega)).1, ?_⟩
    refine range_app (fun acc m => ∃ z3 z4, m = S z3 z4 none acc) (fun i => (upTo hs.length i).flatMap fun j => [pr2 hs i j]) (hi := hs.length) (L := 2025) ?_ hs.length 0 [] _ (by omega) hP ⟨none, none, rfl⟩ (fun m' p' => hK m' p')
    rintro i acc _ K2 hi hL ⟨z3, z4, rfl⟩ hK2
    refine ⟨sm (i + 1) hs.length (by omega) (by omega), ?_⟩
    show dLoop (.nm 4) _ _ none _ (rangeD (((i : Nat) : Int) + 1) (((hs.length : Nat) : Int) - (((i : Nat) : Int) + 1)).toNat) _
    rw [rg i hi]
    refine range_app (fun acc m => ∃ z4, m = S (some (.d (.int i))) z4 none acc) (fun j => [pr2 hs i j]) (hi := hs.length) (L := 2025) ?_ _ (i + 1) acc _ (by omega) (by rw [List.length_append]; exact hL) ⟨z4, rfl⟩ (fun m' ⟨z4', p'⟩ => hK2 m' ⟨_, _, p'⟩)
    rintro j acc _ K3 hj hL ⟨z4, rfl⟩ hK3
    refine append_st (k := st.length) (xs := acc.map osD) (osD (pr2 hs i j)) ?_ ?_ (fun C hC => ?_) (small_lt (by rw [List.length_map]; omega)) ?_
    · rfl
    · exact getElem_last _ _
    · refine ⟨lineN rfl, ?_⟩
      refine rIx_mk (at_ i hi) ?_
      refine rIx_mk (at_ j hj) ?_
      refine oppw_ok (hg _ (hAt_mem hi)) (hg _ (hAt_mem hj)) hn ⟨lineN rfl, ?_⟩
      rw [ow2_eq]
      exact hC
    · refine hK3 _ ⟨some (.d (.int j)), congrArg (M.mk _) ?_⟩
      show (st ++ [_]).set st.length _ = st ++ [_]
      rw [set_last, List.map_append]
      rfl
  rintro _ ⟨z3, z4, rfl⟩
  refine seq_mid (fun m => ∃ z3 z4 z5, m = S z3 z4 z5 (allP hs ++ allT hs)) (fun K hK => ?_) ?_
  · refine ⟨(sm hs.length hs.length (by omega) (by omega)).1, ?_⟩
    refine range_app (fun acc m => ∃ z3 z4 z5, m = S z3 z4 z5 acc) (fun i => (upTo hs.length i).flatMap fun j => (upTo hs.length j).flatMap fun k => [pr3 hs i j k]) (hi := hs.length) (L := 93150) ?_ hs.length 0 (allP hs) _ (by omega) (by rw [List.length_append]; exact Nat.le_trans (Nat.add_le_add hP hT) (by decide)) ⟨_, _, none, rfl⟩ (fun m' p' => hK m' p')
    rintro i acc _ K2 hi hL ⟨z3, z4, z5, rfl⟩ hK2
    refine ⟨sm (i + 1) hs.length (by omega) (by omega), ?_⟩
    show dLoop (.nm 4) _ _ none _ (rangeD (((i : Nat) : Int) + 1) (((hs.length : Nat) : Int) - (((i : Nat) : Int) + 1)).toNat) _
    rw [rg i hi]
    refine range_app (fun acc m => ∃ z4 z5, m = S (some (.d (.int i))) z4 z5 acc) (fun j => (upTo hs.length j).flatMap fun k => [pr3 hs i j k]) (hi := hs.length) (L := 93150) ?_ _ (i + 1) acc _ (by omega) (by rw [List.length_append]; exact hL) ⟨z4, z5, rfl⟩ (fun m' ⟨z4', z5', p'⟩ => hK2 m' ⟨_, _, _, p'⟩)
    rintro j acc _ K3 hj hL ⟨z4, z5, rfl⟩ hK3
    refine ⟨sm (j + 1) hs.length (by omega) (by omega), ?_⟩
    show dLoop (.nm 5) _ _ none _ (rangeD (((j : Nat) : Int) + 1) (((hs.length : Nat) : Int) - (((j : Nat) : Int) + 1)).toNat) _
    rw [rg j hj]
    refine range_app (fun acc m => ∃ z5, m = S (some (.d (.int i))) (some (.d (.int j))) z5 acc) (fun k => [pr3 hs i j k]) (hi := hs.length) (L := 93150) ?_ _ (j + 1) acc _ (by omega) (by rw [List.length_append]; exact hL) ⟨z5, rfl⟩ (fun m' ⟨z5', p'⟩ => hK3 m' ⟨_, _, p'⟩)
    rintro k acc _ K4 hk hL ⟨z5, rfl⟩ hK4
    refine append_st (k := st.length) (xs := acc.map osD) (osD (pr3 hs i j k)) ?_ ?_ (fun C hC => ?_) (small_lt (by rw [List.length_map]; omega)) ?_
    · rfl
    · exact getElem_last _ _
    · refine ⟨lineN rfl, ?_⟩
      refine rIx_mk (at_ i hi) ?_
      refine rIx_mk (at_ j hj) ?_
      refine rIx_mk (at_ k hk) ?_
      refine triw_ok (hg _ (hAt_mem hi)) (hg _ (hAt_mem hj)) (hg _ (hAt_mem hk)) hn ⟨lineN rfl, ?_⟩
      rw [ow3_eq]
      exact hC
    · refine hK4 _ ⟨some (.d (.int k)), congrArg (M.mk _) ?_⟩
      show (st ++ [_]).set st.length _ = st ++ [_]
      rw [set_last, List.map_append]
      rfl
  rintro _ ⟨z3, z4, z5, rfl⟩
  show onC (st ++ [Cell.lst ((allP hs ++ allT hs).map osD)]) st.length _
  refine onC_mk (getElem_last _ _) ?_
  refine filt_own (f := osD) (p := fun s => s.2.isSome) (i := 6) ?_ ?_ (fun s P hP => ?_) (allP hs ++ allT hs) [] ?_ ?_
  · exact getElem_last _ _
  · exact Nat.lt_of_sub_eq_succ rfl
  · obtain ⟨ix, o⟩ := s
    cases o <;> exact hP
  · rw [List.length_append, List.length_nil]
    omega
  · rw [List.nil_append, opt_map]
    show Q (.d (.lst _)) ((st ++ [_]).take st.length)
    rw [List.take_left]
    exact h
end
end PG

set_option maxRecDepth 100000
set_option maxHeartbeats 4000000
namespace PG
open PySem PySem.Spec PyProof.Rows L2 RT
def numOf (hs : List Hp3) (s : List Nat × List Int) : Int := ((s.1.zip s.2).map fun p => (hAt hs p.1).r * p.2).sum
def emptyB (hs : List Hp3) : Bool := (osets hs).any fun s => decide (numOf hs s < 0)
theorem mem_upTo {n k j : Nat} : j ∈ upTo n k ↔ k < j ∧ j < n := by
  unfold upTo
  rw [List.mem_range'_1]
  omega
inductive OS (hs : List Hp3) : List Nat × List Int → Prop where
  | two (i j : Nat) (a b : Int) (h1 : i < j) (h2 : j < hs.length) (h : oppW (hAt hs i) (hAt hs j) = some (a, b)) : OS hs ([i, j], [a, b])
  | three (i j k : Nat) (a b c : Int) (h1 : i < j) (h2 : j < k) (h3 : k < hs.length) (h : triW (hAt hs i) (hAt hs j) (hAt hs k) = some (a, b, c)) : OS hs ([i, j, k], [a, b, c])
theorem mem_osets {hs : List Hp3} {s : List Nat × List Int} : s ∈ osets hs ↔ OS hs s := by
  unfold osets
  rw [List.mem_filterMap]
  constructor
  · rintro ⟨⟨ix, o⟩, hm, e⟩
    rcases List.mem_append.mp hm with h | h
    · obtain ⟨i, hi, h⟩ := List.mem_flatMap.mp h
      obtain ⟨j, hj, h⟩ := List.mem_flatMap.mp h
      have hj := mem_upTo.mp hj
      cases List.mem_singleton.mp h
      cases hw : oppW (hAt hs i) (hAt hs j) with
      | none =>
        simp [hw] at e
      | some w =>
        simp [hw] at e
        subst e
        exact .two i j w.1 w.2 hj.1 hj.2 hw
    · obtain ⟨i, hi, h⟩ := List.mem_flatMap.mp h
      obtain ⟨j, hj, h⟩ := List.mem_flatMap.mp h
      obtain ⟨k, hk, h⟩ := List.mem_flatMap.mp h
      have hj := mem_upTo.mp hj
      have hk := mem_upTo.mp hk
      cases List.mem_singleton.mp h
      cases hw : triW (hAt hs i) (hAt hs j) (hAt hs k) with
      | none =>
        simp [hw] at e
      | some w =>
        simp [hw] at e
        subst e
        exact .three i j k w.1 w.2.1 w.2.2 hj.1 hk.1 hk.2 hw
  · intro h
    cases h with
    | two i j a b h1 h2 h =>
      refine ⟨pr2 hs i j, List.mem_append_left _ (List.mem_flatMap.mpr ⟨i, by rw [List.mem_range'_1]; omega, List.mem_flatMap.mpr ⟨j, mem_upTo.mpr ⟨h1, h2⟩, List.mem_singleton.mpr rfl⟩⟩), ?_⟩
      unfold pr2
      rw [h]
      rfl
    | three i j k a b c h1 h2 h3 h =>
      refine ⟨pr3 hs i j k, List.mem_append_right _ (List.mem_flatMap.mpr ⟨i, by rw [List.mem_range'_1]; omega, List.mem_flatMap.mpr ⟨j, mem_upTo.mpr ⟨h1, by omega⟩, List.mem_flatMap.mpr ⟨k, mem_upTo.mpr ⟨h2, h3⟩, List.mem_singleton.mpr rfl⟩⟩⟩), ?_⟩
      unfold pr3
      rw [h]
      rfl
theorem num2 (hs : List Hp3) (i j : Nat) (a b : Int) : numOf hs ([i, j], [a, b]) = (hAt hs i).r * a + (hAt hs j).r * b := by
  show (hAt hs i).r * a + ((hAt hs j).r * b + 0) = _
  omega
theorem num3 (hs : List Hp3) (i j k : Nat) (a b c : Int) : numOf hs ([i, j, k], [a, b, c]) = (hAt hs i).r * a + (hAt hs j).r * b + (hAt hs k).r * c := by
  show (hAt hs i).r * a + ((hAt hs j).r * b + ((hAt hs k).r * c + 0)) = _
  omega
theorem cast_neg {z : Int} (h : z < 0) : (z : Rat) < 0 := Rat.intCast_neg_iff.mpr h
theorem cast_pos {z : Int} (h : 0 < z) : (0 : Rat) < (z : Rat) := Rat.intCast_pos.mpr h
theorem os_neg {hs : List Hp3} {s : List Nat × List Int} (h : OS hs s) (hn : numOf hs s < 0) (x : Ray) : ¬ Rg hs x := fun hx => by
  have hn' := cast_neg hn
  cases h with
  | two i j a b h1 h2 h =>
    obtain ⟨_, _, pa, pb, _⟩ := oppW_some h
    obtain ⟨e1, e2⟩ := oppW_dep h
    rw [num2, Rat.intCast_add, castI, castI] at hn'
    have a1 := mul_le (hx _ (hAt_mem (show i < hs.length by omega))) (Rat.le_of_lt (cast_pos pa))
    have a2 := mul_le (hx _ (hAt_mem (show j < hs.length by omega))) (Rat.le_of_lt (cast_pos pb))
    unfold valH at a1 a2
    generalize (a : Rat) = a at *
    generalize (b : Rat) = b at *
    have e3 : a * (((hAt hs i).p : Rat) * x.1 + ((hAt hs i).q : Rat) * x.2) + b * (((hAt hs j).p : Rat) * x.1 + ((hAt hs j).q : Rat) * x.2) = 0 := by
      have : a * (((hAt hs i).p : Rat) * x.1 + ((hAt hs i).q : Rat) * x.2) + b * (((hAt hs j).p : Rat) * x.1 + ((hAt hs j).q : Rat) * x.2) = (a * ((hAt hs i).p : Rat) + b * ((hAt hs j).p : Rat)) * x.1 + (a * ((hAt hs i).q : Rat) + b * ((hAt hs j).q : Rat)) * x.2 := by grind
      rw [this, e1, e2]
      grind
    grind
  | three i j k a b c h1 h2 h3 h =>
    obtain ⟨pa, pb, pc, _⟩ := triW_some h
    obtain ⟨e1, e2⟩ := triW_dep h
    rw [num3, Rat.intCast_add, Rat.intCast_add, castI, castI, castI] at hn'
    have a1 := mul_le (hx _ (hAt_mem (show i < hs.length by omega))) (Rat.le_of_lt (cast_pos pa))
    have a2 := mul_le (hx _ (hAt_mem (show j < hs.length by omega))) (Rat.le_of_lt (cast_pos pb))
    have a3 := mul_le (hx _ (hAt_mem (show k < hs.length by omega))) (Rat.le_of_lt (cast_pos pc))
    unfold valH at a1 a2 a3
    generalize (a : Rat) = a at *
    generalize (b : Rat) = b at *
    generalize (c : Rat) = c at *
    have e3 : a * (((hAt hs i).p : Rat) * x.1 + ((hAt hs i).q : Rat) * x.2) + b * (((hAt hs j).p : Rat) * x.1 + ((hAt hs j).q : Rat) * x.2) + c * (((hAt hs k).p : Rat) * x.1 + ((hAt hs k).q : Rat) * x.2) = 0 := by
      have : a * (((hAt hs i).p : Rat) * x.1 + ((hAt hs i).q : Rat) * x.2) + b * (((hAt hs j).p : Rat) * x.1 + ((hAt hs j).q : Rat) * x.2) + c * (((hAt hs k).p : Rat) * x.1 + ((hAt hs k).q : Rat) * x.2) = (a * ((hAt hs i).p : Rat) + b * ((hAt hs j).p : Rat) + c * ((hAt hs k).p : Rat)) * x.1 + (a * ((hAt hs i).q : Rat) + b * ((hAt hs j).q : Rat) + c * ((hAt hs k).q : Rat)) * x.2 := by grind
      rw [this, e1, e2]
      grind
    grind

theorem C2.symm {g k : Hp3} : C2 g k → C2 k g := fun ⟨t, ht, e1, e2, dg, hn⟩ => by
  have ti : 0 < 1 / t := by
    rw [Rat.div_def]
    exact Rat.mul_pos (by decide) (Rat.inv_pos.mpr ht)
  refine ⟨1 / t, ti, by grind, by grind, fun ⟨a, b⟩ => ?_, ?_⟩
  · rw [a] at e1
    rw [b] at e2
    have z : ((0 : Int) : Rat) = 0 := rfl
    refine dg ⟨Rat.intCast_eq_zero_iff.mp ?_, Rat.intCast_eq_zero_iff.mp ?_⟩
    · grind
    · grind
  · have w := mul_lt ti hn
    have : 1 / t * (t * (g.r : Rat) + (k.r : Rat)) = (g.r : Rat) + 1 / t * (k.r : Rat) := by grind
    rw [this] at w
    grind
where
  mul_lt {t a : Rat} (ht : 0 < t) (h : a < 0) : t * a < 0 := by
    have := Rat.mul_pos ht (show 0 < -a by grind)
    grind
theorem C2.opp {g k : Hp3} (h : C2 g k) : ∃ a b, oppW g k = some (a, b) ∧ (g.r * a + k.r * b : Int) < 0 := by
  obtain ⟨t, ht, e1, e2, dg, hn⟩ := h
  have z : ((0 : Int) : Rat) = 0 := rfl
  have h0 : dt g k = 0 := Rat.intCast_inj.mp (by rw [dt_cast, e1, e2, z]; grind)
  have hpos := dg.pos
  have h1 : dotI g k < 0 := Rat.intCast_neg_iff.mp (by
    have : (dotI g k : Rat) = -(t * (dotI g g : Rat)) := by
      rw [dot_cast, dot_cast, e1, e2]
      grind
    rw [this]
    have := Rat.mul_pos ht hpos
    grind)
  have hw : ∃ w, oppW g k = some w := by
    unfold oppW
    rw [if_neg (by omega)]
    exact ⟨_, rfl⟩
  obtain ⟨⟨a, b⟩, hw⟩ := hw
  obtain ⟨_, _, pa, pb, d, hd, ea, eb⟩ := oppW_some hw
  have en := opp_n1 ht e1 e2
  rw [← ea, ← eb, castI, castI] at en
  have hd' := cast_pos hd
  have pb' := cast_pos pb
  refine ⟨a, b, hw, Rat.intCast_neg_iff.mp ?_⟩
  rw [Rat.intCast_add, castI, castI]
  have eab : (a : Rat) = t * (b : Rat) := mul_cancel_r (show (d : Rat) ≠ 0 by grind) (by grind)
  rw [eab]
  have w := C2.symm.mul_lt pb' hn
  grind
theorem C3.perm1 {g k l : Hp3} : C3 g k l → C3 k g l := fun ⟨a, b, c, pa, pb, pc, e1, e2, hn, nd⟩ => ⟨b, a, c, pb, pa, pc, by grind, by grind, by grind, by rw [dt_swap]; omega⟩
theorem C3.nd {g k l : Hp3} : C3 g k l → dt k l ≠ 0 := fun ⟨a, b, c, pa, pb, pc, e1, e2, hn, nd⟩ z => by
  have h1 := dt_cast g k
  have h2 := dt_cast k l
  rw [z] at h2
  have z0 : ((0 : Int) : Rat) = 0 := rfl
  have nd' : (dt g k : Rat) ≠ 0 := fun y => nd (Rat.intCast_eq_zero_iff.mp y)
  rw [h1] at nd'
  -- cross with k: a dt(g, k) = c dt(k, l)
  have : a * ((g.p : Rat) * (k.q : Rat) - (g.q : Rat) * (k.p : Rat)) = 0 := by grind
  grind
theorem C3.perm2 {g k l : Hp3} (h : C3 g k l) : C3 k l g := by
  have nd := h.nd
  obtain ⟨a, b, c, pa, pb, pc, e1, e2, hn, _⟩ := h
  exact ⟨b, c, a, pb, pc, pa, by grind, by grind, by grind, nd⟩
theorem C3.tri {g k l : Hp3} (h : C3 g k l) : ∃ a b c, triW g k l = some (a, b, c) ∧ (g.r * a + k.r * b + l.r * c : Int) < 0 := by
  have nkl := h.nd
  have nlg := h.perm2.nd
  obtain ⟨a, b, c, pa, pb, pc, e1, e2, hn, nd⟩ := h
  have h1 := dt_cast g k
  have h2 := dt_cast k l
  have h3 := dt_cast l g
  -- the weights go with the determinants
  have f1 : b * (dt k l : Rat) = a * (dt l g : Rat) := by rw [h2, h3]; grind
  have f2 : c * (dt k l : Rat) = a * (dt g k : Rat) := by rw [h1, h2]; grind
  have nkl' : (dt k l : Rat) ≠ 0 := fun y => nkl (Rat.intCast_eq_zero_iff.mp y)
  have fb : (dt l g : Rat) = b / a * (dt k l : Rat) := by grind
  have fc : (dt g k : Rat) = c / a * (dt k l : Rat) := by grind
  have pb' : 0 < b / a := by
    rw [Rat.div_def]
    exact Rat.mul_pos pb (Rat.inv_pos.mpr pa)
  have pc' : 0 < c / a := by
    rw [Rat.div_def]
    exact Rat.mul_pos pc (Rat.inv_pos.mpr pa)
  have hw : ∃ w, triW g k l = some w := by
    unfold triW
    rw [if_neg ?_]
    · exact ⟨_, rfl⟩
    · unfold w3
      by_cases s : dt k l < 0
      · rw [if_pos s]
        have s' := cast_neg s
        have u1 := Rat.mul_pos pb' (show 0 < -(dt k l : Rat) by grind)
        have u2 := Rat.mul_pos pc' (show 0 < -(dt k l : Rat) by grind)
        have v1 : dt l g < 0 := Rat.intCast_neg_iff.mp (by rw [fb]; grind)
        have v2 : dt g k < 0 := Rat.intCast_neg_iff.mp (by rw [fc]; grind)
        dsimp only
        omega
      · rw [if_neg s]
        have s2 : 0 < dt k l := by omega
        have s' := cast_pos s2
        have v1 : 0 < dt l g := Rat.intCast_pos.mp (by rw [fb]; exact Rat.mul_pos pb' s')
        have v2 : 0 < dt g k := Rat.intCast_pos.mp (by rw [fc]; exact Rat.mul_pos pc' s')
        dsimp only
        omega
  obtain ⟨⟨x, y, z⟩, hw⟩ := hw
  obtain ⟨px, py, pz, d, hd, ex, ey, ez⟩ := triW_some hw
  refine ⟨x, y, z, hw, Rat.intCast_neg_iff.mp ?_⟩
  have gx : (x : Rat) * (d : Rat) = (dt k l : Rat) := by rw [← castI, ex]
  have gy : (y : Rat) * (d : Rat) = (dt l g : Rat) := by rw [← castI, ey]
  have gz : (z : Rat) * (d : Rat) = (dt g k : Rat) := by rw [← castI, ez]
  have hd' : (d : Rat) ≠ 0 := fun y => hd (Rat.intCast_eq_zero_iff.mp y)
  have px' := cast_pos px
  have hy : (y : Rat) = b / a * (x : Rat) := mul_cancel_r hd' (by rw [gy, fb, ← gx]; grind)
  have hz : (z : Rat) = c / a * (x : Rat) := mul_cancel_r hd' (by rw [gz, fc, ← gx]; grind)
  rw [Rat.intCast_add, Rat.intCast_add, castI, castI, castI, hy, hz]
  have w := C2.symm.mul_lt (Rat.mul_pos px' (show 0 < 1 / a by rw [Rat.div_def]; exact Rat.mul_pos (by decide) (Rat.inv_pos.mpr pa))) hn
  have e : (x : Rat) * (1 / a) * (a * (g.r : Rat) + b * (k.r : Rat) + c * (l.r : Rat)) = (g.r : Rat) * (x : Rat) + (k.r : Rat) * (b / a * (x : Rat)) + (l.r : Rat) * (c / a * (x : Rat)) := by grind
  rw [← e]
  exact w
theorem mem_at {hs : List Hp3} {g : Hp3} (h : g ∈ hs) : ∃ i, i < hs.length ∧ hAt hs i = g := by
  obtain ⟨i, hi⟩ := List.getElem?_of_mem h
  have hl := (List.getElem?_eq_some_iff.mp hi).1
  exact ⟨i, hl, by rw [hAt_get hl] at hi; exact Option.some.inj hi⟩
theorem emptyB_iff {hs : List Hp3} (hd : ∀ g ∈ hs, Dir g) : emptyB hs = true ↔ ¬ ∃ x, Rg hs x := by
  unfold emptyB
  rw [List.any_eq_true]
  constructor
  · rintro ⟨s, hs', hn⟩ ⟨x, hx⟩
    exact os_neg (mem_osets.mp hs') (of_decide_eq_true hn) x hx
  · intro hno
    have two : ∀ i j, i < j → j < hs.length → C2 (hAt hs i) (hAt hs j) → ∃ s, s ∈ osets hs ∧ decide (numOf hs s < 0) = true := fun i j hij hj h => by
      obtain ⟨a, b, hw, hn⟩ := h.opp
      exact ⟨_, mem_osets.mpr (.two i j a b hij hj hw), decide_eq_true (by rw [num2]; exact hn)⟩
    have three : ∀ i j k, i < j → j < k → k < hs.length → C3 (hAt hs i) (hAt hs j) (hAt hs k) → ∃ s, s ∈ osets hs ∧ decide (numOf hs s < 0) = true := fun i j k hij hjk hk h => by
      obtain ⟨a, b, c, hw, hn⟩ := h.tri
      exact ⟨_, mem_osets.mpr (.three i j k a b c hij hjk hk hw), decide_eq_true (by rw [num3]; exact hn)⟩
    rcases helly hd with h | ⟨g, hg, k, hk, h⟩ | ⟨g, hg, k, hk, l, hl, h⟩
    · exact (hno h).elim
    · obtain ⟨i, hi, rfl⟩ := mem_at hg
      obtain ⟨j, hj, rfl⟩ := mem_at hk
      rcases Nat.lt_trichotomy i j with z | z | z
      · exact two i j z hj h
      · subst z
        obtain ⟨t, ht, e1, e2, dg, _⟩ := h
        have := dg.rat
        refine (this ⟨?_, ?_⟩).elim
        · have : (1 + t) * ((hAt hs i).p : Rat) = 0 := by grind
          exact (Rat.mul_eq_zero.mp this).resolve_left (by grind)
        · have : (1 + t) * ((hAt hs i).q : Rat) = 0 := by grind
          exact (Rat.mul_eq_zero.mp this).resolve_left (by grind)
      · exact two j i z hi h.symm
    · obtain ⟨i, hi, rfl⟩ := mem_at hg
      obtain ⟨j, hj, rfl⟩ := mem_at hk
      obtain ⟨k, hk', rfl⟩ := mem_at hl
      have dd : ∀ g : Hp3, dt g g = 0 := fun g => by unfold dt; grind
      have nij : i ≠ j := fun z => by
        obtain ⟨a, b, c, pa, pb, pc, e1, e2, hn, nd⟩ := h
        rw [z] at nd
        exact nd (dd _)
      have njk : j ≠ k := fun z => by
        have := h.nd
        rw [z] at this
        exact this (dd _)
      have nki : k ≠ i := fun z => by
        have := h.perm2.nd
        rw [z] at this
        exact this (dd _)
      rcases Nat.lt_or_gt_of_ne nij with a | a <;> rcases Nat.lt_or_gt_of_ne njk with b | b <;> rcases Nat.lt_or_gt_of_ne nki with c | c
      · omega
      · exact three i j k a b hk' h
      · exact three k i j c a hj h.perm2.perm2
      · exact three i k j c b hj h.perm2.perm2.perm1
      · exact three j k i b c hi h.perm2
      · exact three j i k a c hk' h.perm1
      · exact three k j i b a hi h.perm2.perm1
      · omega
end PG

set_option maxRecDepth 100000
set_option maxHeartbeats 4000000
namespace PG
open PySem PySem.Spec PyProof.Rows L2 RT
theorem zipD_map {α β : Type} (f : α → Dt) (g : β → Dt) : ∀ (xs : List α) (ys : List β), zipD (xs.map f) (ys.map g) = (xs.zip ys).map fun p => Dt.tup [f p.1, g p.2]
  | [], _ => by cases ‹List β› <;> rfl
  | _ :: _, [] => rfl
  | x :: xs, y :: ys => by
    rw [List.zip_cons_cons, List.map_cons, List.map_cons, List.map_cons, ← zipD_map f g xs ys]
    rfl
theorem sumI_map : ∀ xs : List Int, sumI (xs.map .int) = some xs.sum
  | [] => rfl
  | x :: xs => by
    rw [List.map_cons, List.sum_cons]
    show (sumI (xs.map .int)).map (x + ·) = _
    rw [sumI_map xs]
    rfl

theorem lgn1 {n : Nat} {g : Hp3} (h : HZ n g) : (n1 g).natAbs.log2 + 1 ≤ n := by
  unfold n1
  have := lga (a := ab g.p) (b := ab g.q) (n := n - 2) (by rw [ab_nat, Int.natAbs_natCast]; have := h.1; omega) (by rw [ab_nat, Int.natAbs_natCast]; have := h.2.1; omega)
  have := h.1
  omega
theorem lg_div {a d w : Int} (h : w * d = a) (hd : d ≠ 0) : w.natAbs.log2 ≤ a.natAbs.log2 := by
  refine log2_mono ?_
  rw [← h, Int.natAbs_mul]
  exact Nat.le_mul_of_pos_right _ (by omega)
theorem os_z {n : Nat} {hs : List Hp3} (hg : ∀ g ∈ hs, HZ n g) {s : List Nat × List Int} (h : OS hs s) : (∀ i ∈ s.1, i < hs.length) ∧ (∀ w ∈ s.2, w.natAbs.log2 + 2 ≤ 2 * n) ∧ s.1.length = s.2.length ∧ s.1.length ≤ 3 := by
  cases h with
  | two i j a b h1 h2 h =>
    obtain ⟨_, _, pa, pb, d, hd, ea, eb⟩ := oppW_some h
    have z1 := hg _ (hAt_mem (show i < hs.length by omega))
    have z2 := hg _ (hAt_mem h2)
    have w1 := lgn1 z1
    have w2 := lgn1 z2
    have u1 := lg_div ea (by omega)
    have u2 := lg_div eb (by omega)
    have := z1.1
    refine ⟨fun k hk => ?_, fun w hw => ?_, rfl, Nat.le_of_ble_eq_true rfl⟩
    · simp at hk
      omega
    · simp at hw
      rcases hw with rfl | rfl <;> omega
  | three i j k a b c h1 h2 h3 h =>
    obtain ⟨pa, pb, pc, d, hd, ea, eb, ec⟩ := triW_some h
    have z1 := hg _ (hAt_mem (show i < hs.length by omega))
    have z2 := hg _ (hAt_mem (show j < hs.length by omega))
    have z3 := hg _ (hAt_mem h3)
    have d1 := dt_z z2 z3
    have d2 := dt_z z3 z1
    have d3 := dt_z z1 z2
    have u1 := lg_div ea hd
    have u2 := lg_div eb hd
    have u3 := lg_div ec hd
    refine ⟨fun k hk => ?_, fun w hw => ?_, rfl, Nat.le_of_ble_eq_true rfl⟩
    · simp at hk
      omega
    · simp at hw
      rcases hw with rfl | rfl | rfl <;> omega
section
variable {st : List Cell} {Q : Vl → List Cell → Prop} {hs : List Hp3} {n : Nat}
theorem number_ok {s : List Nat × List Int} (hg : ∀ g ∈ hs, HZ n g) (hn : n ≤ 10000000) (h : OS hs s) (hq : Q (.d (.int (numOf hs s))) st) : sp_number_of [.d (.lst (hs.map hpD)), .d (ixD s.1), .d (wsD s.2)] st Q := by
  obtain ⟨z1, z2, z3, z4⟩ := os_z hg h
  unfold sp_number_of
  refine ⟨rfl, ?_⟩
  show dLcGo _ _ (.tp [3, 4]) dYes _ (zipD (s.1.map fun i : Nat => Dt.int (i : Int)) (s.2.map .int)) none _ (zipD (s.1.map fun i : Nat => Dt.int (i : Int)) (s.2.map .int)) [] _
  rw [zipD_map]
  refine lc_map (fun p : Nat × Int => Dt.tup [.int (p.1 : Int), .int p.2]) (fun p => Dt.int ((hAt hs p.1).r * p.2)) (done := []) (fun p hp C hC => ?_) ?_ ?_
  · obtain ⟨hp1, hp2⟩ := List.of_mem_zip hp
    have hi := z1 _ hp1
    refine ⟨rfl, ?_⟩
    refine rIx_mk (atI_map (f := hpD) (hAt_get hi)) ?_
    have y1 := (hg _ (hAt_mem hi)).2.2
    have y2 := z2 _ hp2
    exact ⟨mulok (zm (by omega)), hC _⟩
  · rw [List.length_nil, List.length_zip]
    omega
  · rw [List.nil_append]
    have e : (s.1.zip s.2).map (fun p => Dt.int ((hAt hs p.1).r * p.2)) = ((s.1.zip s.2).map fun p => (hAt hs p.1).r * p.2).map .int := by rw [List.map_map]; rfl
    rw [e]
    show match sumI (((s.1.zip s.2).map fun p => (hAt hs p.1).r * p.2).map .int) with | some n => _ | none => False
    rw [sumI_map]
    exact tk hq
theorem empty_ok (hg : ∀ g ∈ hs, HZ n g) (hn : n ≤ 10000000) (hl : hs.length ≤ 45) (h : Q (.d (.bl (emptyB hs))) st) : sp_is_empty [.d (.lst (hs.map hpD))] st Q := by
  unfold sp_is_empty
  refine ⟨rfl, osets_ok hg hn hl ?_⟩
  refine gx_any oD (fun s => decide (numOf hs s < 0)) (fun s hs' C hC => ?_) (tk h)
  exact ⟨rfl, number_ok hg hn (mem_osets.mp hs') ⟨trivial, hC _⟩⟩
end
end PG

set_option maxRecDepth 100000
set_option maxHeartbeats 4000000
namespace PG
open PySem PySem.Spec PyProof.Rows L2 RT
theorem zb0 : zb 0 = 2 := by decide +kernel
section
variable {st : List Cell} {Q : Vl → List Cell → Prop} {hs : List Hp3} {n : Nat}
end
end PG

set_option maxRecDepth 100000
set_option maxHeartbeats 4000000
namespace PG
open PySem PySem.Spec PyProof.Rows L2 RT

def meetR (g k : Hp3) : Option Ray := if dt g k = 0 then none else some (Rat.divInt (g.r * k.q - k.r * g.q) (dt g k), Rat.divInt (g.p * k.r - k.p * g.r) (dt g k))
theorem divI {a b : Int} : Rat.divInt a b = (a : Rat) / (b : Rat) := Rat.divInt_eq_div ..
theorem meet_of {g k : Hp3} {x : Ray} (h : dt g k ≠ 0) (h1 : valH g x = g.r) (h2 : valH k x = k.r) : meetR g k = some x := by
  unfold meetR
  rw [if_neg h]
  have hd : (dt g k : Rat) ≠ 0 := fun y => h (Rat.intCast_eq_zero_iff.mp y)
  have e := dt_cast g k
  rw [divI, divI, Rat.intCast_sub, Rat.intCast_sub, castI, castI, castI, castI, ← h1, ← h2]
  unfold valH
  generalize (dt g k : Rat) = d at *
  obtain ⟨x1, x2⟩ := x
  dsimp only
  congr 1
  refine Prod.ext ?_ ?_
  · dsimp only
    rw [e]
    rw [e] at hd
    grind
  · dsimp only
    rw [e]
    rw [e] at hd
    grind
theorem meet_val {g k : Hp3} {x : Ray} (h : meetR g k = some x) : dt g k ≠ 0 ∧ valH g x = g.r ∧ valH k x = k.r := by
  unfold meetR at h
  by_cases h0 : dt g k = 0
  · rw [if_pos h0] at h
    cases h
  · rw [if_neg h0] at h
    have hd : (dt g k : Rat) ≠ 0 := fun y => h0 (Rat.intCast_eq_zero_iff.mp y)
    have e := dt_cast g k
    cases h
    unfold valH
    dsimp only
    rw [divI, divI, Rat.intCast_sub, Rat.intCast_sub, castI, castI, castI, castI]
    generalize (dt g k : Rat) = d at *
    exact ⟨h0, by grind, by grind⟩
def along (y z : Ray) (t : Rat) : Ray := (y.1 + t * (z.1 - y.1), y.2 + t * (z.2 - y.2))
theorem all_has {hs : List Hp3} {x : Ray} : hs.all (hasH x) = true ↔ Rg hs x := by
  rw [List.all_eq_true]
  unfold hasH Rg
  simp only [decide_eq_true_eq]
end PG

set_option maxRecDepth 100000
set_option maxHeartbeats 4000000
namespace PG
open PySem PySem.Spec PyProof.Rows L2 RT
def Pl (g : Hp3) : Prop := Dir g ∧ g.p.natAbs ≤ 2 ∧ g.q.natAbs ≤ 2 ∧ g.r.natAbs ≤ 6
theorem log_le {z : Int} {n b : Nat} (h : z.natAbs ≤ n) (hb : n < 2 ^ (b + 1)) : z.natAbs.log2 ≤ b := by
  by_cases h0 : z.natAbs = 0
  · rw [h0]
    exact Nat.zero_le _
  · have := (Nat.log2_lt h0 (k := b + 1)).mpr (by omega)
    omega
theorem Pl.z {g : Hp3} (h : Pl g) : HZ 4 g := by
  obtain ⟨_, h1, h2, h3⟩ := h
  have a := log_le (b := 1) h1 (by decide)
  have b := log_le (b := 1) h2 (by decide)
  have c := log_le (b := 2) h3 (by decide)
  exact ⟨by omega, by omega, by omega⟩
theorem gcd3_pos {p q r : Int} (h : ¬ (p = 0 ∧ q = 0)) : 0 < gcd3 p q r := by
  unfold gcd3
  have : Int.gcd (Int.gcd p q : Int) r ≠ 0 := fun e => by
    have := (Int.gcd_eq_zero_iff.mp e).1
    have : Int.gcd p q = 0 := by omega
    exact h (Int.gcd_eq_zero_iff.mp this)
  omega
theorem gcd3_dvd (p q r : Int) : gcd3 p q r ∣ p ∧ gcd3 p q r ∣ q ∧ gcd3 p q r ∣ r := by
  unfold gcd3
  have h1 : (Int.gcd (Int.gcd p q : Int) r : Int) ∣ (Int.gcd p q : Int) := Int.gcd_dvd_left ..
  exact ⟨Int.dvd_trans h1 (Int.gcd_dvd_left ..), Int.dvd_trans h1 (Int.gcd_dvd_right ..), Int.gcd_dvd_right ..⟩
section
variable {ds : List Int} {i k : Nat} {st : List Cell} {Q : Vl → List Cell → Prop}
end
end PG

set_option maxRecDepth 100000
set_option maxHeartbeats 4000000
namespace PG
open PySem PySem.Spec PyProof.Rows L2 RT
theorem filt_ownM {α : Type} {f : α → Dt} {p : α → Bool} {sl slw : List (Option Vl)} {i : Nat} {lk : Option Nat} {tt : DT} {all : List Dt} {st : List Cell} {K : List Dt → M → Prop} (hlk : lockOk lk all ⟨sl, st⟩) (hi : i < slw.length) :
    ∀ (xs acc : List α), (∀ a ∈ xs, ∀ (P : Bool → M → Prop), P (p a) ⟨slw.set i (some (.d (f a))), st⟩ → tt ⟨slw.set i (some (.d (f a))), st⟩ P) → acc.length + xs.length ≤ 1000000 → K ((acc ++ xs.filter p).map f) ⟨sl, st⟩ → dLcGo sl slw (.nm i) tt (dVar i) all lk K (xs.map f) (acc.map f) st
  | [], acc, _, _, h => ⟨hlk, by rw [List.filter_nil, List.append_nil] at h; exact h⟩
  | x :: xs, acc, ht, hl, h => by
    rw [List.length_cons] at hl
    have hlk' := hlk
    refine ⟨hlk', ht x List.mem_cons_self _ ?_⟩
    have hv : (slw.set i (some (.d (f x))))[i]? = some (some (.d (f x))) := by simp [hi]
    have ht' := fun a ha => ht a (List.mem_cons_of_mem x ha)
    cases hp : p x with
    | true =>
      rw [if_pos rfl]
      unfold dVar
      simp only [hv]
      refine ⟨by rw [List.length_map]; exact small_lt (by omega), ?_⟩
      have := filt_ownM (all := all) (K := K) hlk hi xs (acc ++ [x]) ht' (by rw [List.length_append, List.length_singleton]; omega) (by rw [List.append_assoc]; rw [List.filter_cons, if_pos hp] at h; exact h)
      rw [List.map_append] at this
      exact this
    | false =>
      exact filt_ownM (K := K) hlk hi xs acc ht' (by omega) (by rw [List.filter_cons, if_neg (by rw [hp]; decide)] at h; exact h)
theorem fr_int (z : Int) : Dt.tup [.int z, .int 1] = fr (z : Rat) := rfl
theorem Pl.zb {g : Hp3} (h : Pl g) : zb (g.p : Rat) ≤ 5 ∧ zb (g.q : Rat) ≤ 5 ∧ zb (g.r : Rat) ≤ 5 := by
  obtain ⟨a, b, c⟩ := h.z
  have := zb_int g.p
  have := zb_int g.q
  have := zb_int g.r
  omega
section
variable {st : List Cell} {Q : Vl → List Cell → Prop} {g k l : Hp3} {x : Ray} {n : Nat} {hs : List Hp3}
theorem Pl.ab (hg : Pl g) : g.p.natAbs ≤ 6 ∧ g.q.natAbs ≤ 6 ∧ g.r.natAbs ≤ 6 := by
  obtain ⟨_, a, b, c⟩ := hg
  omega
theorem divI_z {a d : Int} (h0 : d ≠ 0) (h1 : a.natAbs ≤ 1000) (h2 : d.natAbs ≤ 1000) : zb (Rat.divInt a d) ≤ 20 := by
  have := zb_divInt (n := a) h0
  have := log_le (b := 9) h1 (by decide)
  have := log_le (b := 9) h2 (by decide)
  omega
end
end PG

set_option maxRecDepth 100000
set_option maxHeartbeats 4000000
namespace PG
open PySem PySem.Spec PyProof.Rows L2 RT
section
variable {st : List Cell} {Q : Vl → List Cell → Prop} {g k l : Hp3} {x : Ray} {n : Nat} {hs : List Hp3}
end
end PG

set_option maxRecDepth 100000
set_option maxHeartbeats 4000000
namespace PG
open PySem PySem.Spec PyProof.Rows L2 RT
section
variable {st : List Cell} {Q : Vl → List Cell → Prop} {g k l : Hp3} {x : Ray} {n : Nat} {hs : List Hp3}
end
end PG

set_option maxRecDepth 100000
set_option maxHeartbeats 4000000
namespace PG
open PySem PySem.Spec PyProof.Rows L2 RT
section
variable {st : List Cell} {Q : Vl → List Cell → Prop} {hs : List Hp3} {n : Nat}
end

end PG

set_option maxRecDepth 100000
set_option maxHeartbeats 4000000
namespace PG
open PySem PySem.Spec PyProof.Rows L2 RT

structure Sw (k W : Nat) (d : Dt) : Prop where
  shw : (toPy d).showable = true
  itg : (toPy d).intsShort 13 = true
  lay : (toPy d).canLay0 = true
  dep : (toPy d).depth ≤ k
  wt : (toPy d).weight ≤ W
theorem Sw.shows {k W : Nat} {d : Dt} (h : Sw k W d) (hk : k ≤ 60) (hW : W ≤ 1000000) : shows d := by
  refine ⟨h.shw, Nat.le_trans h.dep hk, ?_⟩
  have hl : PyData.layable0 (toPy d) = true := by
    unfold PyData.layable0
    rw [h.lay, decide_eq_true (show (toPy d).depth ≤ 64 by have := h.dep; omega), decide_eq_true (show (toPy d).weight ≤ 2 ^ 20 by have := h.wt; omega)]
    rfl
  exact PyData.shown_fits_of_layable0 (B := 13) (by decide) (by decide) hl h.itg

def Pg (g : Hp3) : Prop := Dir g ∧ gcd3 g.p g.q g.r = 1 ∧ g.p.natAbs ≤ 1000000 ∧ g.q.natAbs ≤ 1000000 ∧ g.r.natAbs ≤ 1000000
theorem Pg.z {g : Hp3} (h : Pg g) : HZ 30 g := by
  obtain ⟨_, _, h1, h2, h3⟩ := h
  have a := log_le (b := 20) h1 (by decide)
  have b := log_le (b := 20) h2 (by decide)
  have c := log_le (b := 20) h3 (by decide)
  exact ⟨by omega, by omega, by omega⟩
end PG

set_option maxRecDepth 100000
set_option maxHeartbeats 4000000
namespace PG
open PySem PySem.Spec PyProof.Rows L2 RT

end PG

set_option maxRecDepth 100000
set_option maxHeartbeats 4000000
namespace PG
open PySem PySem.Spec PyProof.Rows L2 RT

def befR (a b : Ray) : Bool := if a.1 = b.1 then decide (a.2 < b.2) else decide (a.1 < b.1)
def putF (L : List Ray) (x : Ray) : List Ray := if x ∈ L then L else L.take (L.filter fun y => befR y x).length ++ [x] ++ L.drop (L.filter fun y => befR y x).length
theorem putF_mem {L : List Ray} {x y : Ray} : y ∈ putF L x ↔ y ∈ L ∨ y = x := by
  unfold putF
  split
  · rename_i h
    constructor
    · exact .inl
    · rintro (h' | rfl)
      · exact h'
      · exact h
  · generalize (L.filter fun y => befR y x).length = n
    rw [List.mem_append, List.mem_append, List.mem_singleton]
    constructor
    · rintro ((h | h) | h)
      · exact .inl (List.mem_of_mem_take h)
      · exact .inr h
      · exact .inl (List.mem_of_mem_drop h)
    · rintro (h | h)
      · have : y ∈ L.take n ++ L.drop n := by rw [List.take_append_drop]; exact h
        rcases List.mem_append.mp this with h | h
        · exact .inl (.inl h)
        · exact .inr h
      · exact .inl (.inr h)
def putM (hs : List Hp3) (g : Hp3) (L : List Ray) (k : Hp3) : List Ray := match meetR g k with
  | none => L
  | some x => if hs.all (hasH x) = true then putF L x else L
def corF (hs : List Hp3) : List Hp3 → List Ray → List Ray
  | [], L => L
  | g :: r, L => corF hs r (r.foldl (putM hs g) L)
theorem putM_mem {hs : List Hp3} {g : Hp3} {y : Ray} : ∀ {r : List Hp3} {L : List Ray}, y ∈ r.foldl (putM hs g) L ↔ y ∈ L ∨ (Rg hs y ∧ ∃ k ∈ r, meetR g k = some y)
  | [], L => by simp
  | k :: r, L => by
    rw [List.foldl_cons, putM_mem]
    have one : y ∈ putM hs g L k ↔ y ∈ L ∨ (Rg hs y ∧ meetR g k = some y) := by
      unfold putM
      cases e : meetR g k with
      | none =>
        constructor
        · exact .inl
        · rintro (h | ⟨_, h⟩)
          · exact h
          · cases h
      | some x =>
        dsimp only
        by_cases c : hs.all (hasH x) = true
        · rw [if_pos c, putF_mem]
          constructor
          · rintro (h | rfl)
            · exact .inl h
            · exact .inr ⟨all_has.mp c, rfl⟩
          · rintro (h | ⟨_, h⟩)
            · exact .inl h
            · exact .inr (Option.some.inj h).symm
        · rw [if_neg c]
          constructor
          · exact .inl
          · rintro (h | ⟨h1, h⟩)
            · exact h
            · rw [← Option.some.inj h] at h1
              exact (c (all_has.mpr h1)).elim
    rw [one]
    constructor
    · rintro ((h | ⟨h1, h2⟩) | ⟨h1, k', hk', h2⟩)
      · exact .inl h
      · exact .inr ⟨h1, k, List.mem_cons_self, h2⟩
      · exact .inr ⟨h1, k', List.mem_cons_of_mem _ hk', h2⟩
    · rintro (h | ⟨h1, k', hk', h2⟩)
      · exact .inl (.inl h)
      · rcases List.mem_cons.mp hk' with e | e
        · rw [e] at h2
          exact .inl (.inr ⟨h1, h2⟩)
        · exact .inr ⟨h1, k', e, h2⟩
theorem meet_swap {g k : Hp3} {x : Ray} (h : meetR g k = some x) : meetR k g = some x := by
  obtain ⟨h0, h1, h2⟩ := meet_val h
  refine meet_of (fun z => h0 ?_) h2 h1
  unfold dt at *
  have a := Int.mul_comm k.p g.q
  have b := Int.mul_comm k.q g.p
  omega
theorem cor_mem {hs : List Hp3} {y : Ray} : ∀ {r : List Hp3} {L : List Ray}, y ∈ corF hs r L ↔ y ∈ L ∨ (Rg hs y ∧ ∃ g ∈ r, ∃ k ∈ r, meetR g k = some y)
  | [], L => by
    unfold corF
    simp
  | g :: r, L => by
    unfold corF
    rw [cor_mem, putM_mem]
    constructor
    · rintro ((h | ⟨h1, k, hk, h2⟩) | ⟨h1, g', hg', k, hk, h2⟩)
      · exact .inl h
      · exact .inr ⟨h1, g, List.mem_cons_self, k, List.mem_cons_of_mem _ hk, h2⟩
      · exact .inr ⟨h1, g', List.mem_cons_of_mem _ hg', k, List.mem_cons_of_mem _ hk, h2⟩
    · rintro (h | ⟨h1, g', hg', k, hk, h2⟩)
      · exact .inl (.inl h)
      · rcases List.mem_cons.mp hg' with e | hg'
        · rcases List.mem_cons.mp hk with e' | hk
          · exfalso
            obtain ⟨h0, _, _⟩ := meet_val h2
            rw [e, e'] at h0
            refine h0 ?_
            unfold dt
            have := Int.mul_comm g.p g.q
            omega
          · rw [e] at h2
            exact .inl (.inr ⟨h1, k, hk, h2⟩)
        · rcases List.mem_cons.mp hk with e' | hk
          · rw [e'] at h2
            exact .inl (.inr ⟨h1, g', hg', meet_swap h2⟩)
          · exact .inr ⟨h1, g', hg', k, hk, h2⟩
def corners (hs : List Hp3) : List Ray := corF hs hs []

theorem divInt_mul {a d : Int} (h : d ≠ 0) : (d : Rat) * Rat.divInt a d = (a : Rat) := by
  have : (d : Rat) ≠ 0 := fun y => h (Rat.intCast_eq_zero_iff.mp y)
  rw [divI]
  generalize (d : Rat) = d at *
  grind
def half : Rat := Rat.divInt 1 2
end PG

set_option maxRecDepth 100000
set_option maxHeartbeats 4000000
namespace PG
open PySem PySem.Spec PyProof.Rows L2 RT
section
variable {st : List Cell} {Q : Vl → List Cell → Prop} {hs : List Hp3} {n : Nat} {g k : Hp3} {x : Ray}
end
end PG

set_option maxRecDepth 100000
set_option maxHeartbeats 4000000
namespace PG
open PySem PySem.Spec PyProof.Rows L2 RT
section
variable {st : List Cell} {Q : Vl → List Cell → Prop} {g k : Hp3}
theorem Pg.ab (h : Pg g) : g.p.natAbs ≤ 10000000 ∧ g.q.natAbs ≤ 10000000 ∧ g.r.natAbs ≤ 10000000 ∧ 0 < n1 g ∧ (n1 g).natAbs ≤ 10000000 := by
  have := n1_pos h.1
  obtain ⟨_, _, a, b, c⟩ := h
  unfold n1 at *
  rw [ab_nat, ab_nat] at *
  omega
end
end PG

set_option maxRecDepth 100000
set_option maxHeartbeats 4000000
namespace PG
open PySem PySem.Spec PyProof.Rows L2 RT
section
variable {st : List Cell} {Q : Vl → List Cell → Prop}
end
end PG

set_option maxRecDepth 100000
set_option maxHeartbeats 4000000
namespace PG
open PySem PySem.Spec PyProof.Rows L2 RT
theorem num_le {n d : Int} : (Rat.divInt n d).num.natAbs ≤ n.natAbs := by
  rw [Rat.num_divInt]
  have : (d.sign * n / (d.gcd n : Int)).natAbs ≤ (d.sign * n).natAbs := Int.natAbs_ediv_le_natAbs ..
  rw [Int.natAbs_mul] at this
  have h2 : d.sign.natAbs ≤ 1 := by
    rcases Int.lt_trichotomy d 0 with h | h | h
    · rw [Int.sign_eq_neg_one_of_neg h]
      decide
    · rw [h]
      decide
    · rw [Int.sign_eq_one_of_pos h]
      decide
  have := Nat.mul_le_mul_right n.natAbs h2
  omega
theorem den_le {n d : Int} (hd : d ≠ 0) : (Rat.divInt n d).den ≤ d.natAbs := by
  rw [Rat.den_divInt, if_neg hd]
  exact Nat.div_le_self ..
def Fr (r : Rat) : Prop := ∃ n d : Int, r = Rat.divInt n d ∧ 0 < d ∧ d ≤ 3 ∧ n.natAbs ≤ 30
theorem Fr.nd {r : Rat} : Fr r → r.num.natAbs ≤ 30 ∧ r.den ≤ 3 := fun ⟨n, d, e, h1, h2, h3⟩ => by
  rw [e]
  have := num_le (n := n) (d := d)
  have := den_le (n := n) (d := d) (by omega)
  omega
theorem gcd3_div {x y z : Int} (h : ¬ (x = 0 ∧ y = 0)) : gcd3 (x / gcd3 x y z) (y / gcd3 x y z) (z / gcd3 x y z) = 1 := by
  have g0 := gcd3_pos (r := z) h
  obtain ⟨d1, d2, d3⟩ := gcd3_dvd x y z
  obtain ⟨d, ed⟩ : ∃ d, gcd3 x y z = d := ⟨_, rfl⟩
  rw [ed] at d1 d2 d3 g0 ⊢
  obtain ⟨x', rfl⟩ := d1
  obtain ⟨y', rfl⟩ := d2
  obtain ⟨z', rfl⟩ := d3
  rw [Int.mul_ediv_cancel_left _ (by omega), Int.mul_ediv_cancel_left _ (by omega), Int.mul_ediv_cancel_left _ (by omega)]
  unfold gcd3 at ed ⊢
  rw [Int.gcd_mul_left] at ed
  have e2 : (Int.gcd (((d.natAbs * Int.gcd x' y' : Nat) : Int)) (d * z') : Int) = d.natAbs * (Int.gcd (Int.gcd x' y' : Int) z' : Int) := by
    have : ((d.natAbs * Int.gcd x' y' : Nat) : Int) = d * (Int.gcd x' y' : Int) := by
      rw [Int.natCast_mul]
      congr 1
      omega
    rw [this, Int.gcd_mul_left, Int.natCast_mul]
  rw [e2] at ed
  have hd : (d.natAbs : Int) = d := by omega
  rw [hd] at ed
  have : d * (Int.gcd (Int.gcd x' y' : Int) z' : Int) = d * 1 := by omega
  exact Int.eq_of_mul_eq_mul_left (by omega) this
section
variable {st : List Cell} {Q : Vl → List Cell → Prop}
end
end PG

set_option maxRecDepth 100000
set_option maxHeartbeats 4000000
namespace PG
open PySem PySem.Spec PyProof.Rows L2 RT
theorem Fr.zb {r : Rat} (h : Fr r) : zb r ≤ 20 := by
  obtain ⟨n, d, rfl, h1, h2, h3⟩ := h
  exact divI_z (by omega) (by omega) (by omega)
section
variable {st : List Cell} {Q : Vl → List Cell → Prop}
theorem lfraction4_ok {ds : List Int} {i k : Nat} (hk : st[k]? = some (Bx ds i)) (hi : i < 900000) (h : ∀ r : Rat, (∃ n d : Int, r = Rat.divInt n d ∧ 0 < d ∧ d ≤ 3 ∧ n.natAbs ≤ 4) → Q (.d (fr r)) (st.set k (Bx ds (i + 2)))) : sp__law_fraction [.c k] st Q := by
  have hlt : k < st.length := (List.getElem?_eq_some_iff.mp hk).1
  have hs : ∀ c : Cell, (st.set k c)[k]? = some c := fun c => by simp [hlt]
  have hl : ∀ c : Cell, (st.set k c).length = st.length := fun c => List.length_set
  unfold sp__law_fraction
  refine ⟨rfl, draw2_ok hk (by decide) (by omega) fun a a0 a1 => ⟨trivial, slt rfl, ?_⟩⟩
  refine draw2_ok (hs _) (by decide) (by omega) fun b b0 b1 => ?_
  rw [List.set_set]
  have hb : ∃ d : Int, atI [Dt.int 1, .int 1, .int 2, .int 3] b = some (.int d) ∧ 0 < d ∧ d ≤ 3 := by
    have : b = 0 ∨ b = 1 ∨ b = 2 ∨ b = 3 := by omega
    rcases this with rfl | rfl | rfl | rfl
    · exact ⟨1, rfl, by decide, by decide⟩
    · exact ⟨1, rfl, by decide, by decide⟩
    · exact ⟨2, rfl, by decide, by decide⟩
    · exact ⟨3, rfl, by decide, by decide⟩
  obtain ⟨d, e, d0, d1⟩ := hb
  refine rIx_mk e ?_
  refine lfrac_ok (by omega) ?_
  rw [← hl (Bx ds (i + 2))]
  exact tk (h _ ⟨a - 4, d, rfl, d0, d1, by omega⟩)
end
end PG

set_option maxRecDepth 100000
set_option maxHeartbeats 4000000
namespace PG
open PySem PySem.Spec PyProof.Rows L2 RT

section
variable {ds : List Int} {i k : Nat} {st : List Cell} {Q : Vl → List Cell → Prop}
end
end PG

set_option maxRecDepth 100000
set_option maxHeartbeats 4000000
namespace PG
open PySem PySem.Spec PyProof.Rows L2 RT
def Ez (n : Nat) : El → Prop
  | .gap g => zb g ≤ n
  | .lens p c => zb p ≤ n ∧ zb c ≤ n
  | .prism d => zb d ≤ n
  | .afocal m => zb m ≤ n ∧ m ≠ 0
  | .stop _ _ => True
section
variable {st : List Cell} {Q : Vl → List Cell → Prop}
theorem lgo2_ok {n k : Nat} {e : El} {r : Ray} (he : Ez n e) (hk : 2 * n ≤ k) (h1 : zb r.1 ≤ k) (h2 : zb r.2 ≤ k) (hn : k ≤ 10000000) (h : Q (.d (rayD (behind e r))) st) : sp__law_go_2 [.d (elD e), .d (rayD r)] st Q := by
  unfold sp__law_go_2
  refine ⟨rfl, ?_⟩
  let S : M := ⟨[some (.d (elD e)), some (.d (rayD r)), some (.d (fr r.1)), some (.d (fr r.2))], st⟩
  refine seq_to S (fun K hK => ⟨rfl, hK⟩) ?_
  cases e with
  | gap g =>
    have he : zb g ≤ n := he
    have a := zb_mul g r.2
    refine ⟨s_gap, s_gap, str_eq ?_⟩
    refine lmul2_ok (x := g) (y := r.2) (zm (by omega)) ?_
    exact ladd2_ok (x := r.1) (y := g * r.2) (zm (by omega)) ⟨lineN rfl, tk h⟩
  | lens p c =>
    obtain ⟨h3, h4⟩ := he
    have a := zb_sub r.1 c
    have b := zb_mul p (r.1 - c)
    refine ⟨s_lens, s_gap, str_ne ne_lg ?_⟩
    refine ⟨s_lens, s_lens, str_eq ?_⟩
    refine lsub2_ok (x := r.1) (y := c) (zm (by omega)) ?_
    refine lmul2_ok (x := p) (y := r.1 - c) (zm (by omega)) ?_
    exact lsub2_ok (x := r.2) (y := p * (r.1 - c)) (zm (by omega)) ⟨lineN rfl, tk h⟩
  | prism d =>
    have he : zb d ≤ n := he
    refine ⟨s_prism, s_gap, str_ne ne_pg ?_⟩
    refine ⟨s_prism, s_lens, str_ne ne_pl ?_⟩
    refine ⟨s_prism, s_prism, str_eq ?_⟩
    exact ladd2_ok (x := r.2) (y := d) (zm (by omega)) ⟨lineN rfl, tk h⟩
  | afocal m =>
    obtain ⟨h3, h4⟩ := he
    refine ⟨s_afocal, s_gap, str_ne ne_ag ?_⟩
    refine ⟨s_afocal, s_lens, str_ne ne_al ?_⟩
    refine ⟨s_afocal, s_prism, str_ne ne_ap ?_⟩
    refine ⟨s_afocal, s_afocal, str_eq ?_⟩
    refine lmul2_ok (x := m) (y := r.1) (zm (by omega)) ?_
    refine ldiv_ok (x := r.2) (y := m) h4 (zm (by omega)) ?_
    rw [Rat.div_def]
    exact ⟨lineN rfl, tk h⟩
  | stop lo hi =>
    refine ⟨s_stop, s_gap, str_ne ne_sg ?_⟩
    refine ⟨s_stop, s_lens, str_ne ne_sl ?_⟩
    refine ⟨s_stop, s_prism, str_ne ne_sp ?_⟩
    refine ⟨s_stop, s_afocal, str_ne ne_sa ?_⟩
    exact tk h
end
end PG

set_option maxRecDepth 100000
set_option maxHeartbeats 4000000
namespace PG
open PySem PySem.Spec PyProof.Rows L2 RT
section
variable {ds : List Int} {i k : Nat} {st : List Cell} {Q : Vl → List Cell → Prop}
end
end PG

set_option maxRecDepth 100000
set_option maxHeartbeats 4000000
namespace PG
open PySem PySem.Spec PyProof.Rows L2 RT

end PG

set_option maxRecDepth 100000
set_option maxHeartbeats 4000000
namespace PG
open PySem PySem.Spec PyProof.Rows L2 RT
section
variable {st : List Cell} {Q : Vl → List Cell → Prop}
end
end PG

set_option maxRecDepth 100000
set_option maxHeartbeats 4000000
namespace PG
open PySem PySem.Spec PyProof.Rows L2 RT

structure Sx (k W : Nat) (d : Dt) : Prop where
  shw : (toPy d).showable = true
  itg : (toPy d).intsShort 250 = true
  lay : (toPy d).canLay0 = true
  dep : (toPy d).depth ≤ k
  wt : (toPy d).weight ≤ W
theorem Sx.le {k W k' W' : Nat} {d : Dt} (h : Sx k W d) (h1 : k ≤ k') (h2 : W ≤ W') : Sx k' W' d := ⟨h.shw, h.itg, h.lay, Nat.le_trans h.dep h1, Nat.le_trans h.wt h2⟩
theorem Sx.shows {k W : Nat} {d : Dt} (h : Sx k W d) (hk : k ≤ 60) (hW : W ≤ 60000) : shows d := by
  refine ⟨h.shw, Nat.le_trans h.dep hk, ?_⟩
  have h2 := PyData.shown_le 250 (by decide) (toPy d) (PyData.leavesShort_of_canLay0 250 (toPy d) h.lay h.itg)
  have := h.wt
  show (toPy d).shown.length ≤ 16777216
  omega
end PG

set_option maxRecDepth 100000
set_option maxHeartbeats 4000000

namespace PG
open PySem PySem.Spec PyProof.Rows L2 RT
section
variable {x y : Rat} {st : List Cell} {Q : Vl → List Cell → Prop}
end
section
variable {ds : List Int} {i k : Nat} {st : List Cell} {Q : Vl → List Cell → Prop}
end
section
variable {st : List Cell} {Q : Vl → List Cell → Prop}
end
end PG

set_option maxRecDepth 100000
set_option maxHeartbeats 4000000

namespace PG
open PySem PySem.Spec PyProof.Rows L2 RT
structure Pup where
  i : Nat
  d : Option Rat
  lo : Option Rat
  hi : Option Rat
section
variable {st : List Cell} {Q : Vl → List Cell → Prop}
end
end PG

set_option maxRecDepth 100000
set_option maxHeartbeats 4000000

namespace PG
open PySem PySem.Spec PyProof.Rows L2 RT
structure PupZ (n : Nat) (p : Pup) : Prop where
  d : Zo n p.d
  lo : Zo n p.lo
  hi : Zo n p.hi
section
variable {st : List Cell} {Q : Vl → List Cell → Prop}
end
end PG

set_option maxRecDepth 100000
set_option maxHeartbeats 4000000
namespace PG
open PySem PySem.Spec PyProof.Rows L2 RT

theorem least_go : ∀ (l : List (Option Rat)) (b : Option Rat), match l.foldl (bstep fun x y => x < y) b with
    | none => b = none ∧ ∀ o ∈ l, o = none
    | some s => (b = some s ∨ some s ∈ l) ∧ (∀ y, b = some y → s ≤ y) ∧ ∀ y, some y ∈ l → s ≤ y
  | [], none => ⟨rfl, fun _ h => nomatch h⟩
  | [], some b => ⟨.inl rfl, fun y e => by cases e; exact Rat.le_refl, fun _ h => nomatch h⟩
  | o :: l, b => by
    rw [List.foldl_cons]
    have ih := least_go l (bstep (fun x y => x < y) b o)
    cases hr : l.foldl (bstep fun x y => x < y) (bstep (fun x y => x < y) b o) with
    | none =>
      rw [hr] at ih
      obtain ⟨h1, h2⟩ := ih
      cases o with
      | none => exact ⟨h1, fun o ho => by
          rcases List.mem_cons.mp ho with e | e
          · exact e
          · exact h2 o e⟩
      | some x =>
        cases b with
        | none => cases h1
        | some y =>
          unfold bstep at h1
          dsimp only at h1
          split at h1 <;> cases h1
    | some s =>
      rw [hr] at ih
      obtain ⟨h1, h2, h3⟩ := ih
      cases o with
      | none =>
        refine ⟨?_, h2, fun y hy => ?_⟩
        · rcases h1 with h | h
          · exact .inl h
          · exact .inr (List.mem_cons_of_mem _ h)
        · rcases List.mem_cons.mp hy with e | e
          · cases e
          · exact h3 y e
      | some x =>
        cases b with
        | none =>
          refine ⟨?_, (fun y e => nomatch e), fun y hy => ?_⟩
          · rcases h1 with h | h
            · cases h
              exact .inr List.mem_cons_self
            · exact .inr (List.mem_cons_of_mem _ h)
          · rcases List.mem_cons.mp hy with e | e
            · cases e
              exact h2 x rfl
            · exact h3 y e
        | some z =>
          unfold bstep at h1 h2
          dsimp only at h1 h2
          by_cases c : x < z
          · rw [if_pos c] at h1 h2
            refine ⟨?_, fun y e => ?_, fun y hy => ?_⟩
            · rcases h1 with h | h
              · cases h
                exact .inr List.mem_cons_self
              · exact .inr (List.mem_cons_of_mem _ h)
            · cases e
              have := h2 x rfl
              grind
            · rcases List.mem_cons.mp hy with e | e
              · cases e
                exact h2 x rfl
              · exact h3 y e
          · rw [if_neg c] at h1 h2
            refine ⟨?_, fun y e => ?_, fun y hy => ?_⟩
            · rcases h1 with h | h
              · exact .inl h
              · exact .inr (List.mem_cons_of_mem _ h)
            · exact h2 y e
            · rcases List.mem_cons.mp hy with e | e
              · cases e
                have := h2 z rfl
                grind
              · exact h3 y e
theorem least_none {l : List (Option Rat)} (h : least l = none) : ∀ o ∈ l, o = none := by
  have := least_go l none
  unfold least at h
  rw [h] at this
  exact this.2
theorem least_some {l : List (Option Rat)} {s : Rat} (h : least l = some s) : some s ∈ l ∧ ∀ y, some y ∈ l → s ≤ y := by
  have := least_go l none
  unfold least at h
  rw [h] at this
  exact ⟨this.1.resolve_left (fun e => nomatch e), this.2.2⟩
theorem greatest_neg : ∀ (l : List (Option Rat)) (b : Option Rat), (l.foldl (bstep fun x y => y < x) b).map (-·) = (l.map (Option.map (-·))).foldl (bstep fun x y => x < y) (b.map (-·))
  | [], _ => rfl
  | o :: l, b => by
    rw [List.map_cons, List.foldl_cons, List.foldl_cons, greatest_neg l]
    congr 1
    cases o with
    | none => rfl
    | some x =>
      cases b with
      | none => rfl
      | some y =>
        unfold bstep
        dsimp only [Option.map_some]
        by_cases c : y < x
        · rw [if_pos c, if_pos (by grind)]
          rfl
        · rw [if_neg c, if_neg (by grind)]
          rfl
theorem greatest_none {l : List (Option Rat)} (h : greatest l = none) : ∀ o ∈ l, o = none := fun o ho => by
  have e := greatest_neg l none
  unfold greatest at h
  rw [h] at e
  have := least_none (show least (l.map (Option.map (-·))) = none from e.symm) _ (List.mem_map.mpr ⟨o, ho, rfl⟩)
  cases o with
  | none => rfl
  | some x => cases this
theorem greatest_some {l : List (Option Rat)} {s : Rat} (h : greatest l = some s) : some s ∈ l ∧ ∀ y, some y ∈ l → y ≤ s := by
  have e := greatest_neg l none
  unfold greatest at h
  rw [h] at e
  obtain ⟨h1, h2⟩ := least_some (show least (l.map (Option.map (-·))) = some (-s) from e.symm)
  obtain ⟨o, ho, eo⟩ := List.mem_map.mp h1
  refine ⟨?_, fun y hy => ?_⟩
  · cases o with
    | none => cases eo
    | some x =>
      have : -x = -s := Option.some.inj eo
      have : x = s := by grind
      rw [← this]
      exact ho
  · have := h2 (-y) (List.mem_map.mpr ⟨some y, hy, rfl⟩)
    grind

def supF (p q : Rat) (hs : List Hp3) : Option Rat := if p = 0 ∧ q = 0 then some 0 else least (bounds p q hs)
def infF (p q : Rat) (hs : List Hp3) : Option Rat := (supF (-p) (-q) hs).map (-·)
def IsSup (p q : Rat) (hs : List Hp3) (o : Option Rat) : Prop := match o with
  | none => ∀ m, ∃ x, Rg hs x ∧ m ≤ lin2 p q x
  | some s => (∀ x, Rg hs x → lin2 p q x ≤ s) ∧ ∃ x, Rg hs x ∧ lin2 p q x = s
theorem IsSup.unique {p q : Rat} {hs : List Hp3} : ∀ {o o' : Option Rat}, IsSup p q hs o → IsSup p q hs o' → o = o'
  | none, none, _, _ => rfl
  | none, some s, h, h' => by
    obtain ⟨x, hx, e⟩ := h (s + 1)
    have := h'.1 x hx
    grind
  | some s, none, h, h' => by
    obtain ⟨x, hx, e⟩ := h' (s + 1)
    have := h.1 x hx
    grind
  | some s, some t, h, h' => by
    obtain ⟨x, hx, e⟩ := h.2
    obtain ⟨y, hy, e'⟩ := h'.2
    have a := h.1 y hy
    have b := h'.1 x hx
    have : s = t := by grind
    rw [this]
theorem lin0 (x : Ray) : lin2 0 0 x = 0 := by
  unfold lin2
  grind
theorem sup_is {p q : Rat} {hs : List Hp3} (hd : ∀ g ∈ hs, Dir g) {x0 : Ray} (hx : Rg hs x0) : IsSup p q hs (supF p q hs) := by
  unfold supF
  by_cases c : p = 0 ∧ q = 0
  · rw [if_pos c]
    obtain ⟨rfl, rfl⟩ := c
    exact ⟨fun x _ => by rw [lin0]; exact Rat.le_refl, x0, hx, lin0 x0⟩
  · rw [if_neg c]
    cases e : least (bounds p q hs) with
    | none =>
      intro m
      have hn := least_none e
      rcases Rat.le_total (a := m) (b := lin2 p q x0) with z | z
      · exact ⟨x0, hx, z⟩
      · obtain ⟨x, hx, e⟩ := reach c hd hx (m := m) z (fun b hb => nomatch hn _ hb)
        exact ⟨x, hx, by rw [e]; exact Rat.le_refl⟩
    | some s =>
      obtain ⟨h1, h2⟩ := least_some e
      exact ⟨fun x hx => bound_ok hd hx h1, reach c hd hx (bound_ok hd hx h1) h2⟩
theorem IsSup.scale {p q t : Rat} {hs : List Hp3} (ht : 0 < t) : ∀ {o : Option Rat}, IsSup p q hs o → IsSup (p * t) (q * t) hs (o.map (· * t))
  | none, h => fun m => by
    obtain ⟨x, hx, e⟩ := h (m / t)
    refine ⟨x, hx, ?_⟩
    have w := mul_le e (Rat.le_of_lt ht)
    have e2 : t * (m / t) = m := by grind
    rw [e2] at w
    unfold lin2 at *
    grind
  | some s, ⟨h1, x, hx, e⟩ => by
    refine ⟨fun y hy => ?_, x, hx, ?_⟩
    · have := mul_le (h1 y hy) (Rat.le_of_lt ht)
      unfold lin2 at *
      grind
    · unfold lin2 at *
      grind
end PG

set_option maxRecDepth 100000
set_option maxHeartbeats 4000000

namespace PG
open PySem PySem.Spec PyProof.Rows L2 RT
abbrev Rng := Option (Option Rat × Option Rat)
def inR (lo hi : Option Rat) (x : Rat) : Prop := (∀ l, lo = some l → l ≤ x) ∧ (∀ u, hi = some u → x ≤ u)
def IsRng (S : Rat → Prop) : Rng → Prop
  | none => ∀ x, ¬ S x
  | some o => (∀ x, S x ↔ inR o.1 o.2 x) ∧ ∃ x, S x
theorem up_le {lo hi hi' : Option Rat} {x : Rat} (h : inR lo hi' x) (hh : ∀ y, inR lo hi' y → ∀ u, hi = some u → y ≤ u) : ∀ u, hi = some u → ∃ u', hi' = some u' ∧ u' ≤ u := fun u e => by
  cases hi' with
  | none =>
    have h1 : x ≤ x + (if u ≤ x then 1 else u - x + 1) := by split <;> grind
    have := hh (x + (if u ≤ x then 1 else u - x + 1)) ⟨fun l el => Rat.le_trans (h.1 l el) h1, fun u e => nomatch e⟩ u e
    split at this <;> grind
  | some u' =>
    exact ⟨u', rfl, hh u' ⟨fun l el => Rat.le_trans (h.1 l el) (h.2 u' rfl), fun v e => by cases e; exact Rat.le_refl⟩ u e⟩
theorem lo_le {lo lo' hi : Option Rat} {x : Rat} (h : inR lo' hi x) (hh : ∀ y, inR lo' hi y → ∀ l, lo = some l → l ≤ y) : ∀ l, lo = some l → ∃ l', lo' = some l' ∧ l ≤ l' := fun l e => by
  cases lo' with
  | none =>
    have h1 : x - (if x < l then 1 else x - l + 1) ≤ x := by split <;> grind
    have := hh (x - (if x < l then 1 else x - l + 1)) ⟨fun u e => (nomatch e), fun u eu => Rat.le_trans h1 (h.2 u eu)⟩ l e
    split at this <;> grind
  | some l' =>
    exact ⟨l', rfl, hh l' ⟨fun v e => by cases e; exact Rat.le_refl, fun u eu => Rat.le_trans (h.1 l' rfl) (h.2 u eu)⟩ l e⟩
theorem opt_up {a b : Option Rat} (h1 : ∀ u, a = some u → ∃ u', b = some u' ∧ u' ≤ u) (h2 : ∀ u, b = some u → ∃ u', a = some u' ∧ u' ≤ u) : a = b := by
  cases a with
  | none =>
    cases b with
    | none => rfl
    | some v => obtain ⟨w, e, _⟩ := h2 v rfl; cases e
  | some u =>
    obtain ⟨v, e, hv⟩ := h1 u rfl
    rw [e] at h2 ⊢
    obtain ⟨w, e2, hw⟩ := h2 v rfl
    cases e2
    exact congrArg some (Rat.le_antisymm hw hv)
theorem opt_lo {a b : Option Rat} (h1 : ∀ u, a = some u → ∃ u', b = some u' ∧ u ≤ u') (h2 : ∀ u, b = some u → ∃ u', a = some u' ∧ u ≤ u') : a = b := by
  cases a with
  | none =>
    cases b with
    | none => rfl
    | some v => obtain ⟨w, e, _⟩ := h2 v rfl; cases e
  | some u =>
    obtain ⟨v, e, hv⟩ := h1 u rfl
    rw [e] at h2 ⊢
    obtain ⟨w, e2, hw⟩ := h2 v rfl
    cases e2
    exact congrArg some (Rat.le_antisymm hv hw)
theorem IsRng.unique {S : Rat → Prop} : ∀ {a b : Rng}, IsRng S a → IsRng S b → a = b
  | none, none, _, _ => rfl
  | none, some o, h1, h2 => by obtain ⟨x, hx⟩ := h2.2; exact absurd hx (h1 x)
  | some o, none, h1, h2 => by obtain ⟨x, hx⟩ := h1.2; exact absurd hx (h2 x)
  | some (lo, hi), some (lo', hi'), h1, h2 => by
    obtain ⟨x, hx⟩ := h1.2
    have a : ∀ y, inR lo hi y → inR lo' hi' y := fun y hy => (h2.1 y).mp ((h1.1 y).mpr hy)
    have b : ∀ y, inR lo' hi' y → inR lo hi y := fun y hy => (h1.1 y).mp ((h2.1 y).mpr hy)
    have xa := (h1.1 x).mp hx
    have xb := a x xa
    have e1 : lo = lo' := opt_lo (lo_le xb fun y hy => (b y hy).1) (lo_le xa fun y hy => (a y hy).1)
    have e2 : hi = hi' := opt_up (up_le xb fun y hy => (b y hy).2) (up_le xa fun y hy => (a y hy).2)
    rw [e1, e2]
theorem IsRng.congr {S T : Rat → Prop} (h : ∀ x, S x ↔ T x) : ∀ {o : Rng}, IsRng S o → IsRng T o
  | none, hs => fun x hx => hs x ((h x).mpr hx)
  | some o, hs => ⟨fun x => (h x).symm.trans (hs.1 x), hs.2.elim fun x hx => ⟨x, (h x).mp hx⟩⟩

def badR (r : Rat × Rat) : Bool := decide (r.1 = 0) && decide (r.2 < 0)
def ups (rows : List (Rat × Rat)) : List Rat := (rows.filter fun r => decide (0 < r.1)).map fun r => r.2 / r.1
def los (rows : List (Rat × Rat)) : List Rat := (rows.filter fun r => decide (r.1 < 0)).map fun r => r.2 / r.1
def crossed : Option Rat → Option Rat → Bool
  | some l, some u => decide (u < l)
  | _, _ => false
def rngOf (lo hi : Option Rat) : Rng := if crossed lo hi = true then none else some (lo, hi)
def rowsR (rows : List (Rat × Rat)) : Rng := if rows.any badR = true then none else rngOf (greatest ((los rows).map some)) (least ((ups rows).map some))
theorem mdc {u w : Rat} (h : u ≠ 0) : w = u * (w / u) := by rw [Rat.mul_comm, Rat.div_mul_cancel h]
theorem div_up {u w x : Rat} (h : 0 < u) : u * x ≤ w ↔ x ≤ w / u := by
  have e : w = u * (w / u) := mdc (by grind)
  generalize w / u = t at *
  constructor
  · intro h2
    rw [e] at h2
    exact Rat.le_of_mul_le_mul_left h2 h
  · intro h2
    rw [e]
    exact Rat.mul_le_mul_of_nonneg_left h2 (Rat.le_of_lt h)
theorem div_lo {u w x : Rat} (h : u < 0) : u * x ≤ w ↔ w / u ≤ x := by
  have e : w = u * (w / u) := mdc (by grind)
  generalize w / u = t at *
  constructor
  · intro h2
    rw [e] at h2
    have : (-u) * t ≤ (-u) * x := by
      rw [Rat.neg_mul, Rat.neg_mul]
      exact Rat.neg_le_neg h2
    exact Rat.le_of_mul_le_mul_left this (by grind)
  · intro h2
    rw [e]
    have := Rat.mul_le_mul_of_nonneg_left h2 (show (0 : Rat) ≤ -u by grind)
    grind
theorem rows_iff {rows : List (Rat × Rat)} (hb : ¬ rows.any badR = true) (x : Rat) : (∀ r ∈ rows, r.1 * x ≤ r.2) ↔ (∀ a ∈ ups rows, x ≤ a) ∧ ∀ b ∈ los rows, b ≤ x := by
  constructor
  · intro h
    refine ⟨fun a ha => ?_, fun b hb => ?_⟩
    · obtain ⟨r, hr, rfl⟩ := List.mem_map.mp ha
      obtain ⟨h1, h2⟩ := List.mem_filter.mp hr
      exact (div_up (of_decide_eq_true h2)).mp (h r h1)
    · obtain ⟨r, hr, rfl⟩ := List.mem_map.mp hb
      obtain ⟨h1, h2⟩ := List.mem_filter.mp hr
      exact (div_lo (of_decide_eq_true h2)).mp (h r h1)
  · rintro ⟨h1, h2⟩ r hr
    by_cases c : 0 < r.1
    · exact (div_up c).mpr (h1 _ (List.mem_map.mpr ⟨r, List.mem_filter.mpr ⟨hr, decide_eq_true c⟩, rfl⟩))
    by_cases c2 : r.1 < 0
    · exact (div_lo c2).mpr (h2 _ (List.mem_map.mpr ⟨r, List.mem_filter.mpr ⟨hr, decide_eq_true c2⟩, rfl⟩))
    have e : r.1 = 0 := by grind
    have : ¬ badR r = true := fun z => hb (List.any_eq_true.mpr ⟨r, hr, z⟩)
    have : ¬ r.2 < 0 := fun z => this (by unfold badR; rw [decide_eq_true e, decide_eq_true z]; rfl)
    rw [e]
    grind
theorem least_up {l : List Rat} {x : Rat} : (∀ a ∈ l, x ≤ a) ↔ ∀ u, least (l.map some) = some u → x ≤ u := by
  constructor
  · intro h u e
    obtain ⟨m, _⟩ := least_some e
    obtain ⟨a, ha, e2⟩ := List.mem_map.mp m
    cases e2
    exact h u ha
  · intro h a ha
    cases e : least (l.map some) with
    | none => exact absurd (least_none e (some a) (List.mem_map.mpr ⟨a, ha, rfl⟩)) (by simp)
    | some u => exact Rat.le_trans (h u e) ((least_some e).2 a (List.mem_map.mpr ⟨a, ha, rfl⟩))
theorem greatest_lo {l : List Rat} {x : Rat} : (∀ a ∈ l, a ≤ x) ↔ ∀ u, greatest (l.map some) = some u → u ≤ x := by
  constructor
  · intro h u e
    obtain ⟨m, _⟩ := greatest_some e
    obtain ⟨a, ha, e2⟩ := List.mem_map.mp m
    cases e2
    exact h u ha
  · intro h a ha
    cases e : greatest (l.map some) with
    | none => exact absurd (greatest_none e (some a) (List.mem_map.mpr ⟨a, ha, rfl⟩)) (by simp)
    | some u => exact Rat.le_trans ((greatest_some e).2 a (List.mem_map.mpr ⟨a, ha, rfl⟩)) (h u e)
theorem rngOf_is {S : Rat → Prop} {lo hi : Option Rat} (h : ∀ x, S x ↔ inR lo hi x) : IsRng S (rngOf lo hi) := by
  unfold rngOf
  cases lo with
  | none =>
    rw [if_neg (by cases hi <;> exact Bool.false_ne_true)]
    refine ⟨h, ?_⟩
    cases hi with
    | none => exact ⟨0, (h 0).mpr ⟨fun _ e => (nomatch e), fun _ e => nomatch e⟩⟩
    | some u => exact ⟨u, (h u).mpr ⟨fun _ e => (nomatch e), fun _ e => by cases e; exact Rat.le_refl⟩⟩
  | some l =>
    cases hi with
    | none =>
      rw [if_neg (show ¬ crossed (some l) none = true from Bool.false_ne_true)]
      exact ⟨h, l, (h l).mpr ⟨fun _ e => by cases e; exact Rat.le_refl, fun _ e => nomatch e⟩⟩
    | some u =>
      by_cases c : u < l
      · rw [if_pos (show crossed (some l) (some u) = true from decide_eq_true c)]
        intro x hx
        obtain ⟨h1, h2⟩ := (h x).mp hx
        have := h1 l rfl
        have := h2 u rfl
        grind
      · rw [if_neg (show ¬ crossed (some l) (some u) = true from fun z => c (of_decide_eq_true z))]
        exact ⟨h, l, (h l).mpr ⟨fun _ e => by cases e; exact Rat.le_refl, fun _ e => by cases e; grind⟩⟩
theorem rowsR_is (rows : List (Rat × Rat)) : IsRng (fun x => ∀ r ∈ rows, r.1 * x ≤ r.2) (rowsR rows) := by
  unfold rowsR
  by_cases hb : rows.any badR = true
  · rw [if_pos hb]
    intro x hx
    obtain ⟨r, hr, h⟩ := List.any_eq_true.mp hb
    unfold badR at h
    rw [Bool.and_eq_true, decide_eq_true_eq, decide_eq_true_eq] at h
    have := hx r hr
    rw [h.1] at this
    grind
  · rw [if_neg hb]
    refine rngOf_is fun x => ?_
    rw [rows_iff hb x, least_up, greatest_lo]
    exact And.comm

abbrev Ln := Rat × Rat × Rat
def linD (l : Ln) : Dt := .tup [fr l.1, fr l.2.1, fr l.2.2]
def combo (a b : Ln) : Ln := (a.1 + -(a.2.1 / b.2.1) * b.1, 0, a.2.2 + -(a.2.1 / b.2.1) * b.2.2)
def flat (ls : List Ln) : List Ln := ls.filter fun l => decide (l.2.1 = 0)
def posL (ls : List Ln) : List Ln := ls.filter fun l => decide (0 < l.2.1)
def negL (ls : List Ln) : List Ln := ls.filter fun l => decide (l.2.1 < 0)
def rowsL (ls : List Ln) : List Ln := flat ls ++ (posL ls).flatMap fun a => (negL ls).map (combo a)
def satL (x y : Rat) (l : Ln) : Prop := l.1 * x + l.2.1 * y ≤ l.2.2
theorem mid_ex {A B : List Rat} (h : ∀ a ∈ A, ∀ b ∈ B, b ≤ a) : ∃ y : Rat, (∀ a ∈ A, y ≤ a) ∧ ∀ b ∈ B, b ≤ y := by
  cases e : greatest (B.map some) with
  | none =>
    have hB : ∀ b ∈ B, False := fun b hb => absurd (greatest_none e (some b) (List.mem_map.mpr ⟨b, hb, rfl⟩)) (by simp)
    cases e2 : least (A.map some) with
    | none => exact ⟨0, fun a ha => absurd (least_none e2 (some a) (List.mem_map.mpr ⟨a, ha, rfl⟩)) (by simp), fun b hb => (hB b hb).elim⟩
    | some u => exact ⟨u, fun a ha => (least_some e2).2 a (List.mem_map.mpr ⟨a, ha, rfl⟩), fun b hb => (hB b hb).elim⟩
  | some l =>
    obtain ⟨m, hm⟩ := greatest_some e
    obtain ⟨b, hb, e2⟩ := List.mem_map.mp m
    cases e2
    exact ⟨l, fun a ha => h a ha l hb, fun b hb => hm b (List.mem_map.mpr ⟨b, hb, rfl⟩)⟩
theorem combo_le {a b : Ln} {x : Rat} (ha : 0 < a.2.1) (hb : b.2.1 < 0) : (combo a b).1 * x ≤ (combo a b).2.2 ↔ (b.2.2 - b.1 * x) / b.2.1 ≤ (a.2.2 - a.1 * x) / a.2.1 := by
  obtain ⟨u1, v1, w1⟩ := a
  obtain ⟨u2, v2, w2⟩ := b
  dsimp only [combo] at *
  have e1 : (w1 - u1 * x) = v1 * ((w1 - u1 * x) / v1) := mdc (by grind)
  have e2 : (w2 - u2 * x) = v2 * ((w2 - u2 * x) / v2) := mdc (by grind)
  generalize (w1 - u1 * x) / v1 = s at *
  generalize (w2 - u2 * x) / v2 = t at *
  have e3 : v1 = (v1 / v2) * v2 := by rw [Rat.div_mul_cancel (by grind)]
  generalize v1 / v2 = k at *
  have key : (w1 + -k * w2) - (u1 + -k * u2) * x = v1 * (s - t) := by
    have : w1 = v1 * s + u1 * x := by grind
    have : w2 = v2 * t + u2 * x := by grind
    grind
  constructor
  · intro h
    have : 0 ≤ v1 * (s - t) := by grind
    by_cases c : t ≤ s
    · exact c
    · have := Rat.mul_lt_mul_of_pos_left (Rat.not_le.mp c) ha
      grind
  · intro h
    have := Rat.mul_le_mul_of_nonneg_left h (Rat.le_of_lt ha)
    grind
theorem elim_iff (ls : List Ln) (x : Rat) : (∃ y, ∀ l ∈ ls, satL x y l) ↔ ∀ r ∈ rowsL ls, r.1 * x ≤ r.2.2 := by
  have hup : ∀ {l : Ln} {y : Rat}, 0 < l.2.1 → (satL x y l ↔ y ≤ (l.2.2 - l.1 * x) / l.2.1) := fun {l y} h => by
    rw [← div_up h]
    unfold satL
    constructor <;> intro <;> grind
  have hlo : ∀ {l : Ln} {y : Rat}, l.2.1 < 0 → (satL x y l ↔ (l.2.2 - l.1 * x) / l.2.1 ≤ y) := fun {l y} h => by
    rw [← div_lo h]
    unfold satL
    constructor <;> intro <;> grind
  constructor
  · rintro ⟨y, h⟩ r hr
    rcases List.mem_append.mp hr with hr | hr
    · obtain ⟨h1, h2⟩ := List.mem_filter.mp hr
      have := h r h1
      unfold satL at this
      rw [of_decide_eq_true h2] at this
      grind
    · obtain ⟨a, ha, hr⟩ := List.mem_flatMap.mp hr
      obtain ⟨b, hb, rfl⟩ := List.mem_map.mp hr
      obtain ⟨h1, h2⟩ := List.mem_filter.mp ha
      obtain ⟨h3, h4⟩ := List.mem_filter.mp hb
      have pa := of_decide_eq_true h2
      have pb := of_decide_eq_true h4
      exact (combo_le pa pb).mpr (Rat.le_trans ((hlo pb).mp (h b h3)) ((hup pa).mp (h a h1)))
  · intro h
    obtain ⟨y, hA, hB⟩ := mid_ex (A := (posL ls).map fun l => (l.2.2 - l.1 * x) / l.2.1) (B := (negL ls).map fun l => (l.2.2 - l.1 * x) / l.2.1) (fun s hs t ht => by
      obtain ⟨a, ha, rfl⟩ := List.mem_map.mp hs
      obtain ⟨b, hb, rfl⟩ := List.mem_map.mp ht
      refine (combo_le (of_decide_eq_true (List.mem_filter.mp ha).2) (of_decide_eq_true (List.mem_filter.mp hb).2)).mp (h _ ?_)
      exact List.mem_append_right _ (List.mem_flatMap.mpr ⟨a, ha, List.mem_map.mpr ⟨b, hb, rfl⟩⟩))
    refine ⟨y, fun l hl => ?_⟩
    by_cases c : 0 < l.2.1
    · exact (hup c).mpr (hA _ (List.mem_map.mpr ⟨l, List.mem_filter.mpr ⟨hl, decide_eq_true c⟩, rfl⟩))
    by_cases c2 : l.2.1 < 0
    · exact (hlo c2).mpr (hB _ (List.mem_map.mpr ⟨l, List.mem_filter.mpr ⟨hl, decide_eq_true c2⟩, rfl⟩))
    have e : l.2.1 = 0 := by grind
    have := h l (List.mem_append_left _ (List.mem_filter.mpr ⟨hl, decide_eq_true e⟩))
    unfold satL
    rw [e]
    grind
def lineL (p q : Rat) (g : Hp3) : Ln := if q = 0 then ((g.p : Rat) / p, (g.q : Rat), (g.r : Rat)) else ((g.q : Rat) / q, (g.p : Rat) - (g.q : Rat) / q * p, (g.r : Rat))
def boundsF (p q : Rat) (hs : List Hp3) : Rng := rowsR ((rowsL (hs.map (lineL p q))).map fun l => (l.1, l.2.2))
theorem boundsF_is {p q : Rat} (h0 : ¬ (p = 0 ∧ q = 0)) (hs : List Hp3) : IsRng (fun x => ∃ z : Ray, Rg hs z ∧ p * z.1 + q * z.2 = x) (boundsF p q hs) := by
  refine IsRng.congr (fun x => ?_) (rowsR_is _)
  have e : (∀ r ∈ (rowsL (hs.map (lineL p q))).map fun l => (l.1, l.2.2), r.1 * x ≤ r.2) ↔ ∀ r ∈ rowsL (hs.map (lineL p q)), r.1 * x ≤ r.2.2 := by
    constructor
    · intro h r hr
      exact h _ (List.mem_map.mpr ⟨r, hr, rfl⟩)
    · intro h r hr
      obtain ⟨l, hl, rfl⟩ := List.mem_map.mp hr
      exact h l hl
  rw [e, ← elim_iff]
  by_cases c : q = 0
  · have hp : p ≠ 0 := fun z => h0 ⟨z, c⟩
    have sat : ∀ (g : Hp3) (z : Ray), p * z.1 + q * z.2 = x → (satL x z.2 (lineL p q g) ↔ valH g z ≤ (g.r : Rat)) := fun g z hz => by
      unfold satL lineL valH
      rw [if_pos c]
      have e1 : (g.p : Rat) = (g.p : Rat) / p * p := by rw [Rat.div_mul_cancel hp]
      have e2 : (g.p : Rat) / p * x = (g.p : Rat) * z.1 := by
        rw [← hz, c]
        generalize (g.p : Rat) / p = k at *
        grind
      show (g.p : Rat) / p * x + (g.q : Rat) * z.2 ≤ (g.r : Rat) ↔ _
      rw [e2]
    constructor
    · rintro ⟨y, h⟩
      have hz : p * (x / p, y).1 + q * (x / p, y).2 = x := by
        show p * (x / p) + q * y = x
        rw [c, Rat.mul_comm p, Rat.div_mul_cancel hp]
        grind
      exact ⟨(x / p, y), fun g hg => (sat g _ hz).mp (h _ (List.mem_map.mpr ⟨g, hg, rfl⟩)), hz⟩
    · rintro ⟨z, hz, hx⟩
      refine ⟨z.2, fun l hl => ?_⟩
      obtain ⟨g, hg, rfl⟩ := List.mem_map.mp hl
      exact (sat g z hx).mpr (hz g hg)
  · have sat : ∀ (g : Hp3) (z : Ray), p * z.1 + q * z.2 = x → (satL x z.1 (lineL p q g) ↔ valH g z ≤ (g.r : Rat)) := fun g z hz => by
      unfold satL lineL valH
      rw [if_neg c]
      have e1 : (g.q : Rat) = (g.q : Rat) / q * q := by rw [Rat.div_mul_cancel c]
      show (g.q : Rat) / q * x + ((g.p : Rat) - (g.q : Rat) / q * p) * z.1 ≤ (g.r : Rat) ↔ _
      have e2 : (g.q : Rat) / q * x + ((g.p : Rat) - (g.q : Rat) / q * p) * z.1 = (g.p : Rat) * z.1 + (g.q : Rat) * z.2 := by
        rw [← hz]
        generalize (g.q : Rat) / q = k at *
        rw [e1]
        grind
      rw [e2]
    constructor
    · rintro ⟨y, h⟩
      have hz : p * (y, (x - p * y) / q).1 + q * (y, (x - p * y) / q).2 = x := by
        show p * y + q * ((x - p * y) / q) = x
        rw [Rat.mul_comm q, Rat.div_mul_cancel c]
        grind
      exact ⟨(y, (x - p * y) / q), fun g hg => (sat g _ hz).mp (h _ (List.mem_map.mpr ⟨g, hg, rfl⟩)), hz⟩
    · rintro ⟨z, hz, hx⟩
      refine ⟨z.1, fun l hl => ?_⟩
      obtain ⟨g, hg, rfl⟩ := List.mem_map.mp hl
      exact (sat g z hx).mpr (hz g hg)
end PG

set_option maxRecDepth 100000
set_option maxHeartbeats 4000000
namespace PG
open PySem PySem.Spec PyProof.Rows L2 RT

abbrev Wy := Int × Int
def rotL (g : Hp3) : List Wy := [(0 - g.q, g.p), (g.q, 0 - g.p), (0 - g.p, 0 - g.q)]
def free (hs : List Hp3) (w : Wy) : Bool := (!decide (w.1 = 0) || !decide (w.2 = 0)) && hs.all fun g => decide (g.p * w.1 + g.q * w.2 ≤ 0)
def ways (hs : List Hp3) (a b : Int) : List Wy := ((a, b) :: hs.flatMap rotL).filter (free hs)
end PG

set_option maxRecDepth 100000
set_option maxHeartbeats 4000000
namespace PG
open PySem PySem.Spec PyProof.Rows L2 RT
end PG

set_option maxRecDepth 100000
set_option maxHeartbeats 4000000
namespace PG
open PySem PySem.Spec PyProof.Rows L2 RT
theorem zb_div (x y : Rat) : zb (x / y) ≤ zb x + zb y := by
  rw [Rat.div_def]
  have := zb_mul x y⁻¹
  have := zb_inv (m := y)
  omega
theorem HZ.zb {n : Nat} {g : Hp3} (h : HZ n g) : zb (g.p : Rat) ≤ n ∧ zb (g.q : Rat) ≤ n ∧ zb (g.r : Rat) ≤ n := by
  obtain ⟨a, b, c⟩ := h
  have := zb_int g.p
  have := zb_int g.q
  have := zb_int g.r
  omega
theorem sgn_le0 (x : Rat) : (sgn x ≤ 0) ↔ ¬ 0 < x := by
  rw [← sgn_pos]
  omega
theorem dlc_own {α : Type} (f h : α → Dt) {xs : List α} {m : M} {g : Tgt} {t te : DE} {vs : List Nat} {Q : Vl → M → Prop} (ht : ∀ K : Vl → M → Prop, K (.d (.lst (xs.map f))) m → t m K)
    (hs : ∀ x ∈ xs, ∀ (C : Vl → M → Prop), (∀ sl', C (.d (h x)) ⟨sl', m.st⟩) → tgD g (.d (f x)) ⟨wipeD m.sl vs, m.st⟩ fun m1 => te m1 C) (hl : xs.length ≤ 1000000) (hK : Q (.c m.st.length) ⟨m.sl, m.st ++ [.lst (xs.map h)]⟩) : dLc true (dAny t) g dYes te vs m Q :=
  ht _ (lc_map f h (done := []) hs (by simpa using hl) hK)
section
variable {st : List Cell} {Q : Vl → List Cell → Prop} {hs : List Hp3} {n : Nat} {g k : Hp3} {p q : Rat}
theorem sgl_z (hp : zb p ≤ n) (hq : zb q ≤ n) (hg : HZ n g) : ∀ b, sglB p q g = some b → zb b ≤ 20 * n := fun b e => by
  obtain ⟨z1, z2, z3⟩ := hg.zb
  unfold sglB at e
  split at e
  · cases e
    have a1 := zb_mul (g.p : Rat) p
    have a2 := zb_mul (g.q : Rat) q
    have a3 := zb_add ((g.p : Rat) * p) ((g.q : Rat) * q)
    have a4 := zb_div ((g.p : Rat) * p + (g.q : Rat) * q) (dotI g g : Rat)
    have a5 := zb_mul (((g.p : Rat) * p + (g.q : Rat) * q) / (dotI g g : Rat)) (g.r : Rat)
    have a6 := zb_int (dotI g g)
    have a7 := dot_z hg hg
    omega
  · cases e
theorem single_ok (hd : Dir g) (hp : zb p ≤ n) (hq : zb q ≤ n) (hg : HZ n g) (hn : n ≤ 1000000) (h : Q (.d (ofr (sglB p q g))) st) : sp_single_bound [.d (hpD g), .d (fr p), .d (fr q)] st Q := by
  obtain ⟨z1, z2, z3⟩ := hg.zb
  have a1 := zb_mul (g.p : Rat) p
  have a2 := zb_mul (g.q : Rat) q
  have a3 := zb_add ((g.p : Rat) * p) ((g.q : Rat) * q)
  have a4 := zb_div ((g.p : Rat) * p + (g.q : Rat) * q) (dotI g g : Rat)
  have a6 := zb_int (dotI g g)
  have a7 := dot_z hg hg
  have b1 := zb_mul (g.p : Rat) q
  have b2 := zb_mul (g.q : Rat) p
  unfold sp_single_bound
  refine ⟨rfl, ?_⟩
  let S : Option Vl → Option Vl → Option Vl → M := fun z3 z4 z5 => ⟨[some (.d (hpD g)), some (.d (fr p)), some (.d (fr q)), z3, z4, z5], st⟩
  refine seq_to (S (some (.d (fr ((g.p : Rat) * q - (g.q : Rat) * p)))) none none) (fun K hK => ?_) ?_
  · refine frac1_ok ?_
    refine multiply_ok (x := (g.p : Rat)) (y := q) (zm (by omega)) ?_
    refine frac1_ok ?_
    refine multiply_ok (x := (g.q : Rat)) (y := p) (zm (by omega)) ?_
    exact subtract_ok (zm (by omega)) hK
  refine seq_to (S (some (.d (fr ((g.p : Rat) * q - (g.q : Rat) * p)))) (some (.d (fr ((g.p : Rat) * p + (g.q : Rat) * q)))) none) (fun K hK => ?_) ?_
  · refine frac1_ok ?_
    refine multiply_ok (x := (g.p : Rat)) (y := p) (zm (by omega)) ?_
    refine frac1_ok ?_
    refine multiply_ok (x := (g.q : Rat)) (y := q) (zm (by omega)) ?_
    exact add_ok (zm (by omega)) hK
  have cnd : ∀ K : Bool → M → Prop, K (!decide ((g.p : Rat) * q - (g.q : Rat) * p = 0 ∧ 0 < (g.p : Rat) * p + (g.q : Rat) * q)) (S (some (.d (fr ((g.p : Rat) * q - (g.q : Rat) * p)))) (some (.d (fr ((g.p : Rat) * p + (g.q : Rat) * q)))) none) → dOr (dTest (dOp RT.rNe (dVar 3) (dC PG.v_ZERO))) (dTest (dOp rLe (dCall PG.sp_sign [] (dCons (dVar 4) dNil)) (dC (.int 0)))) (S (some (.d (fr ((g.p : Rat) * q - (g.q : Rat) * p)))) (some (.d (fr ((g.p : Rat) * p + (g.q : Rat) * q)))) none) K := fun K hK => by
    refine ⟨sh_fr', sh_fr' (q := 0), ?_⟩
    show if (!eqD (fr ((g.p : Rat) * q - (g.q : Rat) * p)) (fr 0)) = true then _ else _
    rw [eqD_fr]
    by_cases c : (g.p : Rat) * q - (g.q : Rat) * p = 0
    · rw [decide_eq_true c]
      refine sign_ok ⟨trivial, ?_⟩
      show K (decide (sgn ((g.p : Rat) * p + (g.q : Rat) * q) ≤ 0)) _
      have e : decide (sgn ((g.p : Rat) * p + (g.q : Rat) * q) ≤ 0) = !decide ((g.p : Rat) * q - (g.q : Rat) * p = 0 ∧ 0 < (g.p : Rat) * p + (g.q : Rat) * q) := by
        rw [← decide_not]
        refine decide_eq_decide.mpr ?_
        rw [sgn_le0]
        exact ⟨fun h ⟨_, h2⟩ => h h2, fun h h2 => h ⟨c, h2⟩⟩
      rw [e]
      exact hK
    · rw [decide_eq_false c]
      rw [decide_eq_false (fun z => c z.1)] at hK
      exact hK
  unfold sglB at h
  by_cases c : (g.p : Rat) * q - (g.q : Rat) * p = 0 ∧ 0 < (g.p : Rat) * p + (g.q : Rat) * q
  · rw [if_pos c] at h
    rw [decide_eq_true c] at cnd
    refine guard_st (S (some (.d (fr ((g.p : Rat) * q - (g.q : Rat) * p)))) (some (.d (fr ((g.p : Rat) * p + (g.q : Rat) * q)))) none) (fun K hK => cnd K hK) ?_
    have hpos := hd.pos
    refine seq_to (S (some (.d (fr ((g.p : Rat) * q - (g.q : Rat) * p)))) (some (.d (fr ((g.p : Rat) * p + (g.q : Rat) * q)))) (some (.d (fr (((g.p : Rat) * p + (g.q : Rat) * q) / (dotI g g : Rat)))))) (fun K hK => ?_) ?_
    · refine prod_ok hg hg (by omega) ?_
      refine frac1_ok ?_
      exact divide_ok (by grind) (zm (by omega)) hK
    · exact frac1_ok (multiply_ok (zm (by omega)) (tk h))
  · rw [if_neg c] at h
    rw [decide_eq_false c] at cnd
    refine ifs_t (S (some (.d (fr ((g.p : Rat) * q - (g.q : Rat) * p)))) (some (.d (fr ((g.p : Rat) * p + (g.q : Rat) * q)))) none) (fun K hK => cnd K hK) ?_
    exact tk h
def owt : Option (Rat × Rat) → Dt
  | none => .non
  | some w => .tup [fr w.1, fr w.2]
theorem prW_z (hp : zb p ≤ n) (hq : zb q ≤ n) (hg : HZ n g) (hk : HZ n k) : zb ((p * (k.q : Rat) - q * (k.p : Rat)) / (dt g k : Rat)) ≤ 6 * n ∧ zb ((q * (g.p : Rat) - p * (g.q : Rat)) / (dt g k : Rat)) ≤ 6 * n := by
  obtain ⟨z1, z2, z3⟩ := hg.zb
  obtain ⟨y1, y2, y3⟩ := hk.zb
  have a1 := zb_mul p (k.q : Rat)
  have a2 := zb_mul q (k.p : Rat)
  have a3 := zb_sub (p * (k.q : Rat)) (q * (k.p : Rat))
  have a4 := zb_div (p * (k.q : Rat) - q * (k.p : Rat)) (dt g k : Rat)
  have b1 := zb_mul q (g.p : Rat)
  have b2 := zb_mul p (g.q : Rat)
  have b3 := zb_sub (q * (g.p : Rat)) (p * (g.q : Rat))
  have b4 := zb_div (q * (g.p : Rat) - p * (g.q : Rat)) (dt g k : Rat)
  have c1 := zb_int (dt g k)
  have c2 := dt_z hg hk
  omega
theorem pweights_ok (hp : zb p ≤ n) (hq : zb q ≤ n) (hg : HZ n g) (hk : HZ n k) (hn : n ≤ 1000000) (h : Q (.d (owt (prW p q g k))) st) : sp_pair_weights [.d (hpD g), .d (hpD k), .d (fr p), .d (fr q)] st Q := by
  obtain ⟨z1, z2, z3⟩ := hg.zb
  obtain ⟨y1, y2, y3⟩ := hk.zb
  have a1 := zb_mul p (k.q : Rat)
  have a2 := zb_mul q (k.p : Rat)
  have a3 := zb_sub (p * (k.q : Rat)) (q * (k.p : Rat))
  have b1 := zb_mul q (g.p : Rat)
  have b2 := zb_mul p (g.q : Rat)
  have b3 := zb_sub (q * (g.p : Rat)) (p * (g.q : Rat))
  have c1 := zb_int (dt g k)
  have c2 := dt_z hg hk
  unfold sp_pair_weights
  refine ⟨rfl, ?_⟩
  let S : Option Vl → Option Vl → Option Vl → M := fun z4 z5 z6 => ⟨[some (.d (hpD g)), some (.d (hpD k)), some (.d (fr p)), some (.d (fr q)), z4, z5, z6], st⟩
  refine seq_to (S (some (.d (.int (dt g k)))) none none) (fun K hK => det_ok hg hk (by omega) hK) ?_
  unfold prW at h
  by_cases c : dt g k = 0
  · rw [if_pos c] at h
    refine ifs_t (S (some (.d (.int (dt g k)))) none none) (fun K hK => ⟨rfl, rfl, ?_⟩) ?_
    · show K (eqD (.int (dt g k)) (.int 0)) _
      rw [eqD_int, decide_eq_true c]
      exact hK
    · exact tk h
  · rw [if_neg c] at h
    refine guard_st (S (some (.d (.int (dt g k)))) none none) (fun K hK => ⟨rfl, rfl, ?_⟩) ?_
    · show K (eqD (.int (dt g k)) (.int 0)) _
      rw [eqD_int, decide_eq_false c]
      exact hK
    have d0 : (dt g k : Rat) ≠ 0 := fun y => c (Rat.intCast_eq_zero_iff.mp y)
    obtain ⟨w1, e1⟩ : ∃ w, (p * (k.q : Rat) - q * (k.p : Rat)) / (dt g k : Rat) = w := ⟨_, rfl⟩
    obtain ⟨w2, e2⟩ : ∃ w, (q * (g.p : Rat) - p * (g.q : Rat)) / (dt g k : Rat) = w := ⟨_, rfl⟩
    rw [e1, e2] at h
    refine seq_to (S (some (.d (.int (dt g k)))) (some (.d (fr w1))) none) (fun K hK => ?_) ?_
    · refine frac1_ok ?_
      refine multiply_ok (x := p) (y := (k.q : Rat)) (zm (by omega)) ?_
      refine frac1_ok ?_
      refine multiply_ok (x := q) (y := (k.p : Rat)) (zm (by omega)) ?_
      refine subtract_ok (zm (by omega)) (frac1_ok ?_)
      refine divide_ok d0 (zm (by omega)) ?_
      rw [e1]
      exact hK
    refine seq_to (S (some (.d (.int (dt g k)))) (some (.d (fr w1))) (some (.d (fr w2)))) (fun K hK => ?_) ?_
    · refine frac1_ok ?_
      refine multiply_ok (x := q) (y := (g.p : Rat)) (zm (by omega)) ?_
      refine frac1_ok ?_
      refine multiply_ok (x := p) (y := (g.q : Rat)) (zm (by omega)) ?_
      refine subtract_ok (zm (by omega)) (frac1_ok ?_)
      refine divide_ok d0 (zm (by omega)) ?_
      rw [e2]
      exact hK
    refine sign_ok ⟨trivial, ?_⟩
    show if decide (sgn w1 ≤ 0) = true then _ else _
    refine ifd (fun c1 => ?_) fun c1 => ?_
    · rw [sgn_le0] at c1
      rw [if_pos (.inl (by grind))] at h
      exact tk h
    · rw [sgn_le0] at c1
      refine sign_ok ⟨trivial, ?_⟩
      show if decide (sgn w2 ≤ 0) = true then _ else _
      refine ifd (fun c2 => ?_) fun c2 => ?_
      · rw [sgn_le0] at c2
        rw [if_pos (.inr (by grind))] at h
        exact tk h
      · rw [sgn_le0] at c2
        rw [if_neg (by grind)] at h
        exact ⟨lineN rfl, tk h⟩
theorem pr_z (hp : zb p ≤ n) (hq : zb q ≤ n) (hg : HZ n g) (hk : HZ n k) : ∀ b, prB p q g k = some b → zb b ≤ 20 * n := fun b e => by
  obtain ⟨z1, z2, z3⟩ := hg.zb
  obtain ⟨y1, y2, y3⟩ := hk.zb
  obtain ⟨w1, w2⟩ := prW_z hp hq hg hk
  unfold prB prW at e
  split at e
  · cases e
  · split at e
    · cases e
    · have e' := Option.some.inj e
      rw [← e']
      have a1 := zb_mul ((p * (k.q : Rat) - q * (k.p : Rat)) / (dt g k : Rat)) (g.r : Rat)
      have a2 := zb_mul ((q * (g.p : Rat) - p * (g.q : Rat)) / (dt g k : Rat)) (k.r : Rat)
      have a3 := zb_add ((p * (k.q : Rat) - q * (k.p : Rat)) / (dt g k : Rat) * (g.r : Rat)) ((q * (g.p : Rat) - p * (g.q : Rat)) / (dt g k : Rat) * (k.r : Rat))
      dsimp only
      omega
theorem pair_ok (hp : zb p ≤ n) (hq : zb q ≤ n) (hg : HZ n g) (hk : HZ n k) (hn : n ≤ 1000000) (h : Q (.d (ofr (prB p q g k))) st) : sp_pair_bound [.d (hpD g), .d (hpD k), .d (fr p), .d (fr q)] st Q := by
  obtain ⟨z1, z2, z3⟩ := hg.zb
  obtain ⟨y1, y2, y3⟩ := hk.zb
  obtain ⟨u1, u2⟩ := prW_z hp hq hg hk
  unfold sp_pair_bound
  refine ⟨rfl, pweights_ok hp hq hg hk hn ?_⟩
  unfold prB at h
  have hw : ∀ w, prW p q g k = some w → w = ((p * (k.q : Rat) - q * (k.p : Rat)) / (dt g k : Rat), (q * (g.p : Rat) - p * (g.q : Rat)) / (dt g k : Rat)) := fun w e => by
    unfold prW at e
    split at e
    · cases e
    · split at e
      · cases e
      · exact (Option.some.inj e).symm
  cases e : prW p q g k with
  | none =>
    rw [e] at h
    exact tk h
  | some w =>
    rw [e] at h
    have ew := hw w e
    have v1 : zb w.1 ≤ 6 * n := by rw [ew]; exact u1
    have v2 : zb w.2 ≤ 6 * n := by rw [ew]; exact u2
    have a1 := zb_mul w.1 (g.r : Rat)
    have a2 := zb_mul w.2 (k.r : Rat)
    refine frac1_ok ?_
    refine multiply_ok (x := w.1) (y := (g.r : Rat)) (zm (by omega)) ?_
    refine frac1_ok ?_
    refine multiply_ok (x := w.2) (y := (k.r : Rat)) (zm (by omega)) ?_
    exact add_ok (zm (by omega)) (tk h)
theorem bounds_z (hp : zb p ≤ n) (hq : zb q ≤ n) (hg : ∀ g ∈ hs, HZ n g) : Zs (20 * n) (bounds p q hs) := fun b hb => by
  rcases List.mem_append.mp hb with h | h
  · obtain ⟨g, hg', e⟩ := List.mem_map.mp h
    exact sgl_z hp hq (hg g hg') b e
  · obtain ⟨g, hg1, k, hk1, e⟩ := mem_prs h
    exact pr_z hp hq (hg g hg1) (hg k hk1) b e.symm
theorem sup_z (hp : zb p ≤ n) (hq : zb q ≤ n) (hg : ∀ g ∈ hs, HZ n g) : ∀ b, supF p q hs = some b → zb b ≤ 20 * n + 2 := fun b e => by
  unfold supF at e
  split at e
  · cases e
    rw [zb0]
    omega
  · have := bounds_z hp hq hg b (least_some e).1
    omega
theorem prs_len (p q : Rat) : ∀ hs : List Hp3, (prs p q hs).length ≤ hs.length * hs.length
  | [] => Nat.zero_le _
  | g :: r => by
    show (r.map (prB p q g) ++ prs p q r).length ≤ _
    rw [List.length_append, List.length_map, List.length_cons, Nat.succ_mul, Nat.mul_succ]
    have := prs_len p q r
    omega
theorem sup_ok (hd : ∀ g ∈ hs, Dir g) (hp : zb p ≤ n) (hq : zb q ≤ n) (hg : ∀ g ∈ hs, HZ n g) (hn : n ≤ 1000000) (hl : hs.length ≤ 300) (h : Q (.d (ofr (supF p q hs))) st) : sp_supremum [.d (.lst (hs.map hpD)), .d (fr p), .d (fr q)] st Q := by
  unfold sp_supremum
  refine ⟨rfl, ?_⟩
  let S : Option Vl → Option Vl → Option Vl → Option Vl → List Cell → M := fun z3 z4 z5 z6 c => ⟨[some (.d (.lst (hs.map hpD))), some (.d (fr p)), some (.d (fr q)), z3, z4, z5, z6], c⟩
  have cnd : ∀ K : Bool → M → Prop, K (decide (p = 0 ∧ q = 0)) (S none none none none st) → dAnd (dTest (dOp RT.rEq (dVar 1) (dC PG.v_ZERO))) (dTest (dOp RT.rEq (dVar 2) (dC PG.v_ZERO))) (S none none none none st) K := fun K hK => by
    refine ⟨sh_fr', sh_fr' (q := 0), ?_⟩
    show if eqD (fr p) (fr 0) = true then _ else _
    rw [eqD_fr]
    refine ifd (fun c => ?_) fun c => ?_
    · refine ⟨sh_fr', sh_fr' (q := 0), ?_⟩
      show K (eqD (fr q) (fr 0)) _
      rw [eqD_fr]
      have : decide (q = 0) = decide (p = 0 ∧ q = 0) := decide_eq_decide.mpr ⟨fun e => ⟨c, e⟩, fun e => e.2⟩
      rw [this]
      exact hK
    · rw [decide_eq_false (fun z => c z.1)] at hK
      exact hK
  unfold supF at h
  by_cases c : p = 0 ∧ q = 0
  · rw [if_pos c] at h
    rw [decide_eq_true c] at cnd
    refine ifs_t (S none none none none st) (fun K hK => cnd K hK) ?_
    exact tk h
  rw [if_neg c] at h
  rw [decide_eq_false c] at cnd
  refine guard_st (S none none none none st) (fun K hK => cnd K hK) ?_
  let T : List (Option Rat) → Option Vl → Option Vl → Option Vl → M := fun acc z3 z5 z6 => S z3 (some (.c st.length)) z5 z6 (st ++ [Cell.lst (acc.map ofr)])
  refine seq_to (T (hs.map (sglB p q)) none none none) (fun K hK => ?_) ?_
  · refine dlc_own hpD (fun g => ofr (sglB p q g)) (xs := hs) (fun K2 h2 => ?_) (fun g hgm C hC => ?_) (by omega) ?_
    · exact h2
    · exact single_ok (hd g hgm) hp hq (hg g hgm) hn (hC _)
    · have e : hs.map (fun g => ofr (sglB p q g)) = (hs.map (sglB p q)).map ofr := by rw [List.map_map]; rfl
      rw [e]
      exact hK
  have pl := prs_len p q hs
  have hmul : hs.length * hs.length ≤ 300 * 300 := Nat.mul_le_mul hl hl
  refine seq_mid (fun m => ∃ z3 z5 z6, m = T (bounds p q hs) z3 z5 z6) (fun K hK => ?_) ?_
  · refine enum_inv (fun k rest m => ∃ done acc z3 z5 z6, hs = done ++ rest ∧ k = done.length ∧ acc ++ prs p q rest = bounds p q hs ∧ m = T acc z3 z5 z6) ?_ ?_ _ 0 _ ⟨[], hs.map (sglB p q), none, none, none, rfl, rfl, rfl, rfl⟩
    · rintro k g rest m K2 hK2 ⟨done, acc, z3, z5, z6, e1, rfl, e3, rfl⟩
      have hgm : g ∈ hs := by rw [e1]; exact List.mem_append_right _ List.mem_cons_self
      have hrest : ∀ k ∈ rest, k ∈ hs := fun k hk => by rw [e1]; exact List.mem_append_right _ (List.mem_cons_of_mem _ hk)
      have hj : done.length < hs.length := by
        rw [e1, List.length_append, List.length_cons]
        omega
      have hdrop : hs.drop (done.length + 1) = rest := by
        rw [e1, List.drop_append]
        simp
      have bl : (bounds p q hs).length ≤ 100000 := by
        unfold bounds
        rw [List.length_append, List.length_map]
        omega
      have e3' : acc ++ (rest.map (prB p q g) ++ prs p q rest) = bounds p q hs := e3
      show dLoop (.nm 6) _ (RT.cutD (hs.map hpD) (some (((done.length : Nat) : Int) + 1)) none) none _ (RT.cutD (hs.map hpD) (some (((done.length : Nat) : Int) + 1)) none) _
      have ec : RT.cutD (hs.map hpD) (some (((done.length : Nat) : Int) + 1)) none = rest.map hpD := by
        have := cut_drop (hs.map hpD) (done.length + 1) (by rw [List.length_map]; omega)
        rw [← List.map_drop, hdrop] at this
        exact this
      rw [ec]
      refine each_inv (lk := none) hpD (fun r m => ∃ acc2 z6, (∀ k ∈ r, k ∈ hs) ∧ acc2 ++ (r.map (prB p q g) ++ prs p q rest) = bounds p q hs ∧ m = T acc2 (some (.d (hpD g))) (some (.d (.int done.length))) z6) (fun _ _ _ => trivial) ?_ ?_ rest _ ⟨acc, z6, hrest, e3', rfl⟩
      · rintro k r _ K3 hK3 ⟨acc2, z6, hr, he, rfl⟩
        have hkm := hr k List.mem_cons_self
        have al : acc2.length ≤ 100000 := by
          have := congrArg List.length he
          rw [List.length_append] at this
          omega
        refine append_st (k := st.length) (xs := acc2.map ofr) (ofr (prB p q g k)) ?_ ?_ (fun C hC => ?_) (small_lt (by rw [List.length_map]; omega)) ?_
        · rfl
        · exact getElem_last _ _
        · exact pair_ok hp hq (hg g hgm) (hg k hkm) hn hC
        · refine hK3 _ ⟨acc2 ++ [prB p q g k], some (.d (hpD k)), fun y hy => hr y (List.mem_cons_of_mem _ hy), ?_, congrArg (M.mk _) ?_⟩
          · rw [List.append_assoc]
            exact he
          · show (st ++ [_]).set st.length _ = st ++ [_]
            rw [set_last, List.map_append]
            rfl
      · rintro _ ⟨acc2, z6, _, he, rfl⟩
        refine hK2 _ ⟨done ++ [g], acc2, _, _, _, by rw [e1, List.append_assoc]; rfl, by rw [List.length_append, List.length_singleton], he, rfl⟩
    · rintro k _ ⟨done, acc, z3, z5, z6, e1, rfl, e3, rfl⟩
      have e3' : acc ++ [] = bounds p q hs := e3
      rw [List.append_nil] at e3'
      exact hK _ ⟨z3, z5, z6, by rw [e3']⟩
  rintro _ ⟨z3, z5, z6, rfl⟩
  show onC (st ++ [Cell.lst ((bounds p q hs).map ofr)]) st.length _
  refine onC_mk (getElem_last _ _) ?_
  refine best_ok (bounds_z hp hq hg) (zm (by omega)) ?_
  show Q _ (((st ++ [_]).set st.length _).take st.length)
  rw [fz_st]
  exact h
end
end PG

set_option maxRecDepth 100000
set_option maxHeartbeats 4000000

namespace PG
open PySem PySem.Spec PyProof.Rows L2 RT
section
variable {st : List Cell} {a b c x : Cell} {l : List Cell}
theorem at0 : (st ++ a :: l)[st.length]? = some a := by simp
theorem at1 : (st ++ a :: b :: l)[st.length + 1]? = some b := by simp [List.getElem?_append_right]
theorem at2 : (st ++ a :: b :: c :: l)[st.length + 2]? = some c := by simp [List.getElem?_append_right]
theorem set1 : (st ++ a :: b :: l).set (st.length + 1) x = st ++ a :: x :: l := by simp [List.set_append_right]
theorem set2 : (st ++ a :: b :: c :: l).set (st.length + 2) x = st ++ a :: b :: x :: l := by simp [List.set_append_right]
theorem tk0 {v : Vl} {Q : Vl → List Cell → Prop} (h : Q v st) : Q v ((st ++ l).take st.length) := by
  rw [List.take_left]
  exact h
end
def LnZ (n : Nat) (l : Ln) : Prop := zb l.1 ≤ n ∧ zb l.2.1 ≤ n ∧ zb l.2.2 ≤ n
theorem combo_z {n : Nat} {a b : Ln} (ha : LnZ n a) (hb : LnZ n b) : zb (combo a b).1 ≤ 4 * n ∧ zb (combo a b).2.2 ≤ 4 * n ∧ zb (-(a.2.1 / b.2.1)) ≤ 2 * n := by
  obtain ⟨a1, a2, a3⟩ := ha
  obtain ⟨b1, b2, b3⟩ := hb
  have s := zb_div a.2.1 b.2.1
  rw [← zb_neg] at s
  have w1 := zb_mul (-(a.2.1 / b.2.1)) b.1
  have w2 := zb_mul (-(a.2.1 / b.2.1)) b.2.2
  have w3 := zb_add a.1 (-(a.2.1 / b.2.1) * b.1)
  have w4 := zb_add a.2.2 (-(a.2.1 / b.2.1) * b.2.2)
  exact ⟨by show zb (a.1 + -(a.2.1 / b.2.1) * b.1) ≤ _; omega, by show zb (a.2.2 + -(a.2.1 / b.2.1) * b.2.2) ≤ _; omega, by omega⟩
theorem rowsL_z {n : Nat} {ls : List Ln} (h : ∀ l ∈ ls, LnZ n l) (h2 : 2 ≤ n) : ∀ r ∈ rowsL ls, LnZ (4 * n) r := fun r hr => by
  rcases List.mem_append.mp hr with hr | hr
  · obtain ⟨y1, y2, y3⟩ := h r (List.mem_filter.mp hr).1
    exact ⟨by omega, by omega, by omega⟩
  · obtain ⟨a, ha, hr⟩ := List.mem_flatMap.mp hr
    obtain ⟨b, hb, rfl⟩ := List.mem_map.mp hr
    obtain ⟨y1, y2, _⟩ := combo_z (h a (List.mem_filter.mp ha).1) (h b (List.mem_filter.mp hb).1)
    have z0 : zb (0 : Rat) = 2 := zb0
    exact ⟨y1, by show zb (0 : Rat) ≤ _; omega, y2⟩
theorem line_z {n : Nat} {p q : Rat} {g : Hp3} (hp : zb p ≤ n) (hq : zb q ≤ n) (hg : HZ n g) : LnZ (4 * n) (lineL p q g) := by
  obtain ⟨y1, y2, y3⟩ := hg.zb
  unfold lineL
  split
  · have := zb_div (g.p : Rat) p
    exact ⟨by show zb ((g.p : Rat) / p) ≤ _; omega, by show zb (g.q : Rat) ≤ _; omega, by show zb (g.r : Rat) ≤ _; omega⟩
  · have s := zb_div (g.q : Rat) q
    have t := zb_mul ((g.q : Rat) / q) p
    have u := zb_sub (g.p : Rat) ((g.q : Rat) / q * p)
    exact ⟨by show zb ((g.q : Rat) / q) ≤ _; omega, by show zb ((g.p : Rat) - (g.q : Rat) / q * p) ≤ _; omega, by show zb (g.r : Rat) ≤ _; omega⟩
def rngD : Rng → Dt
  | none => .tup []
  | some o => .tup [ofr o.1, ofr o.2]
section
variable {st : List Cell} {Q : Vl → List Cell → Prop}
theorem lleast3_ok {n : Nat} {xs : List Rat} (hz : ∀ q ∈ xs, zb q ≤ n) (hn : n + n < ZM) (h : Q (.d (ofr (least (xs.map some)))) st) : sp__law_least_3 [.d (.lst (xs.map fr))] st Q := by
  unfold sp__law_least_3
  refine ⟨rfl, ?_⟩
  obtain ⟨res, er⟩ : ∃ res, least (xs.map some) = res := ⟨_, rfl⟩
  rw [er] at h
  refine seq_to ⟨[some (.d (.lst (xs.map fr))), some (.d (ofr none)), none], st⟩ (fun K hK => hK) ?_
  refine seq_mid (fun m => ∃ z, m = ⟨[some (.d (.lst (xs.map fr))), some (.d (ofr res)), z], st⟩) (fun K hK => ?_) ?_
  · refine each_inv (lk := none) fr (fun r m => ∃ b z, m = ⟨[some (.d (.lst (xs.map fr))), some (.d (ofr b)), z], st⟩ ∧ (∀ q, b = some q → zb q ≤ n) ∧ (∀ q ∈ r, zb q ≤ n) ∧ (r.map some).foldl (bstep fun x y => x < y) b = res) (fun _ _ _ => trivial) ?_ ?_ xs _ ⟨none, none, rfl, (fun q e => nomatch e), hz, er⟩
    · rintro x r _ K2 hK2 ⟨b, z, rfl, hb, hr, e⟩
      have hx := hr x List.mem_cons_self
      have hr' : ∀ q ∈ r, zb q ≤ n := fun q hq => hr q (List.mem_cons_of_mem _ hq)
      have hv : ∀ q, some x = some q → zb q ≤ n := fun q e => by cases e; exact hx
      have go : K2 ⟨[some (.d (.lst (xs.map fr))), some (.d (ofr (bstep (fun x y => x < y) b (some x)))), some (.d (fr x))], st⟩ := hK2 _ ⟨_, _, rfl, bstep_z hb hv, hr', e⟩
      cases b with
      | none => exact go
      | some b =>
        have zb' := hb b rfl
        refine less_ok (x := x) (y := b) (Nat.lt_of_le_of_lt (Nat.add_le_add hx zb') hn) ?_
        show if (decide (x < b)) = true then _ else _
        unfold bstep at go
        simp only at go
        refine ifd (fun c => ?_) fun c => ?_
        · rw [if_pos c] at go
          exact go
        · rw [if_neg c] at go
          exact go
    · rintro _ ⟨b, z, rfl, _, _, e⟩
      have e' : b = res := e
      rw [e']
      exact hK _ ⟨z, rfl⟩
  rintro _ ⟨z, rfl⟩
  exact tk h
theorem lgreatest_ok {n : Nat} {xs : List Rat} (hz : ∀ q ∈ xs, zb q ≤ n) (hn : n + n < ZM) (h : Q (.d (ofr (greatest (xs.map some)))) st) : sp__law_greatest [.d (.lst (xs.map fr))] st Q := by
  unfold sp__law_greatest
  refine ⟨rfl, ?_⟩
  obtain ⟨res, er⟩ : ∃ res, greatest (xs.map some) = res := ⟨_, rfl⟩
  rw [er] at h
  refine seq_to ⟨[some (.d (.lst (xs.map fr))), some (.d (ofr none)), none], st⟩ (fun K hK => hK) ?_
  refine seq_mid (fun m => ∃ z, m = ⟨[some (.d (.lst (xs.map fr))), some (.d (ofr res)), z], st⟩) (fun K hK => ?_) ?_
  · refine each_inv (lk := none) fr (fun r m => ∃ b z, m = ⟨[some (.d (.lst (xs.map fr))), some (.d (ofr b)), z], st⟩ ∧ (∀ q, b = some q → zb q ≤ n) ∧ (∀ q ∈ r, zb q ≤ n) ∧ (r.map some).foldl (bstep fun x y => y < x) b = res) (fun _ _ _ => trivial) ?_ ?_ xs _ ⟨none, none, rfl, (fun q e => nomatch e), hz, er⟩
    · rintro x r _ K2 hK2 ⟨b, z, rfl, hb, hr, e⟩
      have hx := hr x List.mem_cons_self
      have hr' : ∀ q ∈ r, zb q ≤ n := fun q hq => hr q (List.mem_cons_of_mem _ hq)
      have hv : ∀ q, some x = some q → zb q ≤ n := fun q e => by cases e; exact hx
      have go : K2 ⟨[some (.d (.lst (xs.map fr))), some (.d (ofr (bstep (fun x y => y < x) b (some x)))), some (.d (fr x))], st⟩ := hK2 _ ⟨_, _, rfl, bstep_z hb hv, hr', e⟩
      cases b with
      | none => exact go
      | some b =>
        have zb' := hb b rfl
        refine less_ok (x := b) (y := x) (Nat.lt_of_le_of_lt (Nat.add_le_add zb' hx) hn) ?_
        show if (decide (b < x)) = true then _ else _
        unfold bstep at go
        simp only at go
        refine ifd (fun c => ?_) fun c => ?_
        · rw [if_pos c] at go
          exact go
        · rw [if_neg c] at go
          exact go
    · rintro _ ⟨b, z, rfl, _, _, e⟩
      have e' : b = res := e
      rw [e']
      exact hK _ ⟨z, rfl⟩
  rintro _ ⟨z, rfl⟩
  exact tk h
end
end PG

set_option maxRecDepth 100000
set_option maxHeartbeats 4000000
namespace PG
open PySem PySem.Spec PyProof.Rows L2 RT
theorem ifs_t' {c : DT} {t : DS} {b : DS} {E : DEnds} {m : M} (m' : M) (hc : ∀ K : Bool → M → Prop, K true m' → c m K) (h : t ⟨b E, E.rt, E.bk, E.ct⟩ m') : dSeq (dIfS c t dNext) b E m := hc _ h
def nv (z : Option Dt) : Option Vl := z.map .d
theorem fz_at {i k : Nat} {m : M} {Q : Vl → M → Prop} {xs : List Dt} (hv : m.sl[i]? = some (some (.c k))) (hc : m.st[k]? = some (.lst xs)) (h : Q (.d (.lst xs)) (frz k xs m)) : dFz i m Q := by
  unfold dFz
  rw [hv]
  exact onC_mk hc h
theorem los_snoc {xs : List (Rat × Rat)} {x : Rat × Rat} : los (xs ++ [x]) = los xs ++ (if x.1 < 0 then [x.2 / x.1] else []) := by
  unfold los
  rw [List.filter_append, List.map_append]
  congr 1
  by_cases c : x.1 < 0
  · rw [if_pos c, List.filter_cons, if_pos (decide_eq_true c)]
    rfl
  · rw [if_neg c, List.filter_cons, if_neg (by simpa using c)]
    rfl
theorem ups_snoc {xs : List (Rat × Rat)} {x : Rat × Rat} : ups (xs ++ [x]) = ups xs ++ (if 0 < x.1 then [x.2 / x.1] else []) := by
  unfold ups
  rw [List.filter_append, List.map_append]
  congr 1
  by_cases c : 0 < x.1
  · rw [if_pos c, List.filter_cons, if_pos (decide_eq_true c)]
    rfl
  · rw [if_neg c, List.filter_cons, if_neg (by simpa using c)]
    rfl
theorem rowsL_len {n : Nat} {ls : List Ln} (h : ls.length ≤ n) : (rowsL ls).length ≤ n + n * n := by
  unfold rowsL
  rw [List.length_append]
  have h1 : (flat ls).length ≤ n := Nat.le_trans (List.length_filter_le _ _) h
  have h2 : (negL ls).length ≤ n := Nat.le_trans (List.length_filter_le _ _) h
  have h3 : (posL ls).length ≤ n := Nat.le_trans (List.length_filter_le _ _) h
  have go : ∀ as : List Ln, (as.flatMap fun a => (negL ls).map (combo a)).length ≤ as.length * n := by
    intro as
    induction as with
    | nil => simp
    | cons a as ih =>
      rw [List.flatMap_cons, List.length_append, List.length_map, List.length_cons, Nat.succ_mul]
      omega
  have := go (posL ls)
  have : (posL ls).length * n ≤ n * n := Nat.mul_le_mul_right _ h3
  omega
section
variable {st : List Cell} {Q : Vl → List Cell → Prop}
end
end PG

set_option maxRecDepth 100000
set_option maxHeartbeats 4000000
namespace PG
open PySem PySem.Spec PyProof.Rows L2 RT
def isEdge (es : List El) (m : Mp) (j : Nat) (up : Bool) (h : Hp3) : Prop := ∃ lo hi, es[j]? = some (.stop lo hi) ∧
  if up = true then ∃ u, hi = some u ∧ h = mkH (comp m (transfer (es.take j))).a (comp m (transfer (es.take j))).b (u - (comp m (transfer (es.take j))).e)
  else ∃ l, lo = some l ∧ h = mkH (-(comp m (transfer (es.take j))).a) (-(comp m (transfer (es.take j))).b) ((comp m (transfer (es.take j))).e - l)
theorem planes_mem : ∀ (es : List El) (k : Nat) (m : Mp) (x : Ed × Hp3), x ∈ planesOf k m es → ∃ j, x.1.1 = k + j ∧ isEdge es m j x.1.2 x.2
  | [], _, _, _, h => nomatch h
  | e :: es, k, m, x, h => by
    rcases List.mem_append.mp (show x ∈ edgesAt k e m ++ planesOf (k + 1) (comp m (elM e)) es from h) with h | h
    · refine ⟨0, ?_⟩
      have hc : comp m (transfer ((e :: es).take 0)) = m := comp_idr m
      cases e with
      | stop lo hi =>
        rcases List.mem_append.mp (show x ∈ lowE k lo m ++ uppE k hi m from h) with h | h
        · cases lo with
          | none => exact nomatch h
          | some l =>
            rw [show x = _ from List.mem_singleton.mp h]
            refine ⟨rfl, some l, hi, rfl, ?_⟩
            rw [if_neg Bool.false_ne_true, hc]
            exact ⟨l, rfl, rfl⟩
        · cases hi with
          | none => exact nomatch h
          | some l =>
            rw [show x = _ from List.mem_singleton.mp h]
            refine ⟨rfl, lo, some l, rfl, ?_⟩
            rw [if_pos rfl, hc]
            exact ⟨l, rfl, rfl⟩
      | _ => exact nomatch h
    · obtain ⟨j, hj, lo, hi, hs, hx⟩ := planes_mem es (k + 1) _ x h
      refine ⟨j + 1, by omega, lo, hi, hs, ?_⟩
      have hc : comp m (transfer ((e :: es).take (j + 1))) = comp (comp m (elM e)) (transfer (es.take j)) := by
        rw [List.take_succ_cons, transfer_cons, comp_assoc]
      rw [hc]
      exact hx
where
  comp_idr (m : Mp) : comp m (transfer []) = m := comp_id' m
  comp_id' (m : Mp) : comp m idM = m := id_comp m
end PG

set_option maxRecDepth 100000
set_option maxHeartbeats 4000000

namespace PG
open PySem PySem.Spec PyProof.Rows L2 RT
theorem mkH_prim {p q r : Rat} (h : ¬ (p = 0 ∧ q = 0)) : gcd3 (mkH p q r).p (mkH p q r).q (mkH p q r).r = 1 := by
  have hx : ¬ (mkX p q r = 0 ∧ mkY p q r = 0) := fun ⟨a, b⟩ => by
    have g := mkG_pos (r := r) h
    obtain ⟨t, ht, h1, h2, _⟩ := mkH_spec (r := r) h
    have z1 : (mkH p q r).p = 0 := by unfold mkH; rw [a]; exact Int.zero_ediv _
    have z2 : (mkH p q r).q = 0 := by unfold mkH; rw [b]; exact Int.zero_ediv _
    rw [z1] at h1
    rw [z2] at h2
    refine h ⟨?_, ?_⟩
    · have : t * p = 0 := h1.symm
      rcases Rat.mul_eq_zero.mp this with z | z
      · grind
      · exact z
    · have : t * q = 0 := h2.symm
      rcases Rat.mul_eq_zero.mp this with z | z
      · grind
      · exact z
  exact gcd3_div hx
theorem dvd_gcd3 {d x y z : Int} (h1 : d ∣ x) (h2 : d ∣ y) (h3 : d ∣ z) : d ∣ gcd3 x y z := by
  unfold gcd3
  exact Int.dvd_coe_gcd (Int.dvd_coe_gcd h1 h2) h3
theorem mkH_le {p q r : Rat} {D : Rat} {x y z : Int} (h : ¬ (p = 0 ∧ q = 0)) (hD : 0 < D) (hx : p * D = x) (hy : q * D = y) (hz : r * D = z) : (mkH p q r).p.natAbs ≤ x.natAbs ∧ (mkH p q r).q.natAbs ≤ y.natAbs ∧ (mkH p q r).r.natAbs ≤ z.natAbs := by
  obtain ⟨t, ht, h1, h2, h3⟩ := mkH_spec (r := r) h
  have hp := mkH_prim (r := r) h
  generalize mkH p q r = g at *
  obtain ⟨P, Q, R⟩ := g
  dsimp only at *
  obtain ⟨k, ek⟩ : ∃ k, D / t = k := ⟨_, rfl⟩
  have hk : D = k * t := by rw [← ek, Rat.div_mul_cancel (by grind)]
  have k0 : 0 < k := by
    by_cases c : 0 < k
    · exact c
    · have := Rat.mul_le_mul_of_nonneg_left (Rat.not_lt.mp c) (Rat.le_of_lt ht)
      grind
  have e1 : (P : Rat) * k = x := by rw [h1, ← hx, hk]; grind
  have e2 : (Q : Rat) * k = y := by rw [h2, ← hy, hk]; grind
  have e3 : (R : Rat) * k = z := by rw [h3, ← hz, hk]; grind
  have kd := k.den_pos
  have kn : (k.num : Rat) = k * (k.den : Rat) := num_den k
  have toInt : ∀ {a b : Int}, (a : Rat) * k = b → a * k.num = b * k.den := fun {a b} e => by
    have : ((a * k.num : Int) : Rat) = ((b * k.den : Int) : Rat) := by
      rw [Rat.intCast_mul, Rat.intCast_mul, kn, ← e, Rat.intCast_natCast]
      grind
    exact Rat.intCast_inj.mp this
  have cop : Nat.Coprime k.den k.num.natAbs := Nat.Coprime.symm k.reduced
  have dv : ∀ {a b : Int}, (a : Rat) * k = b → (k.den : Int) ∣ a := fun {a b} e => by
    have : (k.den : Int) ∣ a * k.num := ⟨b, by rw [toInt e, Int.mul_comm]⟩
    have h2 : k.den ∣ a.natAbs * k.num.natAbs := by
      rw [← Int.natAbs_mul]
      exact Int.ofNat_dvd_left.mp this
    exact Int.ofNat_dvd_left.mpr (Nat.Coprime.dvd_of_dvd_mul_right cop h2)
  have hd := dvd_gcd3 (dv e1) (dv e2) (dv e3)
  rw [hp] at hd
  have d1 : (k.den : Int) = 1 := by
    have := Int.le_of_dvd (by decide) hd
    omega
  have kpos : 0 < k.num := (num_pos_iff k).mpr k0
  have le : ∀ {a b : Int}, (a : Rat) * k = b → a.natAbs ≤ b.natAbs := fun {a b} e => by
    have := toInt e
    rw [d1, Int.mul_one] at this
    rw [← this, Int.natAbs_mul]
    exact Nat.le_mul_of_pos_right _ (by omega)
  exact ⟨le e1, le e2, le e3⟩
end PG

set_option maxRecDepth 100000
set_option maxHeartbeats 4000000

namespace PG
open PySem PySem.Spec PyProof.Rows L2 RT
theorem planesOf_snoc : ∀ (k : Nat) (m : Mp) (es : List El) (e : El), planesOf k m (es ++ [e]) = planesOf k m es ++ edgesAt (k + es.length) e (comp m (transfer es))
  | k, m, [], e => by
    show edgesAt k e m ++ [] = [] ++ edgesAt (k + 0) e (comp m idM)
    rw [List.append_nil, List.nil_append, Nat.add_zero, id_comp]
  | k, m, x :: es, e => by
    show edgesAt k x m ++ planesOf (k + 1) (comp m (elM x)) (es ++ [e]) = edgesAt k x m ++ planesOf (k + 1) (comp m (elM x)) es ++ edgesAt (k + (es.length + 1)) e (comp m (transfer (x :: es)))
    rw [planesOf_snoc, List.append_assoc, show k + (es.length + 1) = k + 1 + es.length by omega, transfer_cons, comp_assoc]
section
variable {st : List Cell} {Q : Vl → List Cell → Prop}
theorem planesOf_len : ∀ (k : Nat) (m : Mp) (es : List El), (planesOf k m es).length ≤ 2 * es.length
  | _, _, [] => Nat.le_refl _
  | k, m, e :: es => by
    show (edgesAt k e m ++ planesOf (k + 1) (comp m (elM e)) es).length ≤ _
    rw [List.length_append, List.length_cons]
    have := edgesAt_len k e m
    have := planesOf_len (k + 1) (comp m (elM e)) es
    omega
theorem fr_i {i : Int} : fr (i : Rat) = .tup [.int i, .int 1] := by
  unfold fr
  rw [Rat.num_intCast, Rat.den_intCast]
  rfl
end
end PG

set_option maxRecDepth 100000
set_option maxHeartbeats 4000000

namespace PG
open PySem PySem.Spec PyProof.Rows L2 RT
section
variable {st : List Cell} {Q : Vl → List Cell → Prop}
theorem sh_rngD {o : Rng} : shD (rngD o) := by
  cases o with
  | none => exact sh_ok (n := 2) (sh_tup all_nil)
  | some o => exact sh_ok (n := 2) (sh_tup (all_cons sh_ofr (all_cons sh_ofr all_nil)))
theorem eq_rngD {o : Rng} : eqD (rngD o) (.tup []) = o.isNone := by
  cases o <;> rfl
end
end PG

set_option maxRecDepth 100000
set_option maxHeartbeats 4000000

namespace PG
open PySem PySem.Spec PyProof.Rows L2 RT
abbrev EP := Ed × Hp3
section
variable {st : List Cell} {Q : Vl → List Cell → Prop}
end
end PG

set_option maxRecDepth 100000
set_option maxHeartbeats 4000000
namespace PG
open PySem PySem.Spec PyProof.Rows L2 RT
theorem sx_int2 {i : Int} (h : i.natAbs.log2 ≤ 1900) : (toPy (.int i)).showable = true ∧ (toPy (.int i)).intsShort 600 = true ∧ (toPy (.int i)).weight ≤ 1901 := by
  have hlt : i.natAbs < 10 ^ 599 := by
    by_cases h0 : i.natAbs = 0
    · rw [h0]
      decide
    · have := (Nat.log2_lt h0 (k := 1901)).mp (by omega)
      exact Nat.lt_of_lt_of_le this (by decide +kernel)
  refine ⟨?_, ?_, ?_⟩
  · simp only [toPy, PyData.showable, decide_eq_true_eq]
    omega
  · simp only [toPy, PyData.intsShort, decide_eq_true_eq]
    have e := int_text_length_le10 (k := 599) (by decide) hlt
    show (Str.ofString (toString i)).length ≤ 600
    rw [PySem.ofString_length]
    exact e
  · simp only [toPy, PyData.weight]
    split <;> omega
structure Sl (k W : Nat) (d : Dt) : Prop where
  shw : (toPy d).showable = true
  itg : (toPy d).intsShort 600 = true
  lay : (toPy d).canLay0 = true
  dep : (toPy d).depth ≤ k
  wt : (toPy d).weight ≤ W
theorem Sl.le {k W k' W' : Nat} {d : Dt} (h : Sl k W d) (h1 : k ≤ k') (h2 : W ≤ W') : Sl k' W' d := ⟨h.shw, h.itg, h.lay, Nat.le_trans h.dep h1, Nat.le_trans h.wt h2⟩
theorem Sl.shows {k W : Nat} {d : Dt} (h : Sl k W d) (hk : k ≤ 60) (hW : W ≤ 20000) : shows d := by
  refine ⟨h.shw, Nat.le_trans h.dep hk, ?_⟩
  have h2 := PyData.shown_le 600 (by decide) (toPy d) (PyData.leavesShort_of_canLay0 600 (toPy d) h.lay h.itg)
  have := h.wt
  show (toPy d).shown.length ≤ 16777216
  omega

section
variable {st : List Cell} {Q : Vl → List Cell → Prop}
end
end PG

set_option maxRecDepth 100000
set_option maxHeartbeats 4000000
namespace PG
open PySem PySem.Spec PyProof.Rows L2 RT

theorem befR_iff {a b : Ray} : befR a b = true ↔ a.1 < b.1 ∨ (a.1 = b.1 ∧ a.2 < b.2) := by
  unfold befR
  by_cases c : a.1 = b.1
  · rw [if_pos c, decide_eq_true_iff]
    grind
  · rw [if_neg c, decide_eq_true_iff]
    grind
theorem befR_asymm {a b : Ray} (h : befR a b = true) : befR b a = false := by
  rw [← Bool.not_eq_true, befR_iff]
  rw [befR_iff] at h
  grind
theorem befR_irrefl (a : Ray) : befR a a = false := by
  rw [← Bool.not_eq_true, befR_iff]
  grind
def SrtR (l : List Ray) : Prop := l.Pairwise fun a b => befR a b = true
theorem corners_mem {hs : List Hp3} {y : Ray} : y ∈ corners hs ↔ Rg hs y ∧ ∃ g ∈ hs, ∃ k ∈ hs, meetR g k = some y := by
  unfold corners
  rw [cor_mem]
  simp

end PG

set_option maxRecDepth 100000
set_option maxHeartbeats 4000000
namespace PG
open PySem PySem.Spec PyProof.Rows L2 RT
section
variable {st : List Cell} {Q : Vl → List Cell → Prop} {hs : List Hp3} {n : Nat} {g : Hp3} {x : Ray}
end
end PG

set_option maxRecDepth 100000
set_option maxHeartbeats 4000000
namespace PG
open PySem PySem.Spec PyProof.Rows L2 RT
end PG

set_option maxRecDepth 100000
set_option maxHeartbeats 4000000
namespace PG
open PySem PySem.Spec PyProof.Rows L2 RT
theorem inf_is {p q : Rat} {hs : List Hp3} (hd : ∀ g ∈ hs, Dir g) {x0 : Ray} (hx : Rg hs x0) : match infF p q hs with
    | none => ∀ m, ∃ x, Rg hs x ∧ lin2 p q x ≤ m
    | some s => (∀ x, Rg hs x → s ≤ lin2 p q x) ∧ ∃ x, Rg hs x ∧ lin2 p q x = s := by
  have h := sup_is (p := -p) (q := -q) hd hx
  have ln : ∀ x, lin2 (-p) (-q) x = -lin2 p q x := fun x => by
    unfold lin2
    grind
  unfold infF
  cases e : supF (-p) (-q) hs with
  | none =>
    rw [e] at h
    intro m
    obtain ⟨x, hx, e⟩ := h (-m)
    rw [ln] at e
    exact ⟨x, hx, by grind⟩
  | some s =>
    rw [e] at h
    obtain ⟨h1, x, hx, e⟩ := h
    rw [ln] at e
    refine ⟨fun y hy => ?_, x, hx, by grind⟩
    have := h1 y hy
    rw [ln] at this
    grind
theorem mid {p q : Rat} {hs : List Hp3} (hd : ∀ g ∈ hs, Dir g) {x0 : Ray} (hx : Rg hs x0) {m : Rat} (h1 : ∀ l, infF p q hs = some l → l ≤ m) (h2 : ∀ s, supF p q hs = some s → m ≤ s) : ∃ x, Rg hs x ∧ lin2 p q x = m := by
  by_cases c : p = 0 ∧ q = 0
  · obtain ⟨rfl, rfl⟩ := c
    have a := h2 0 (by unfold supF; rw [if_pos ⟨rfl, rfl⟩])
    have b := h1 0 (by unfold infF supF; rw [if_pos ⟨by grind, by grind⟩]; rfl)
    exact ⟨x0, hx, by rw [lin0]; grind⟩
  · have hi := inf_is (p := p) (q := q) hd hx
    have lo : ∃ y, Rg hs y ∧ lin2 p q y ≤ m := by
      cases e : infF p q hs with
      | none =>
        rw [e] at hi
        exact hi m
      | some l =>
        rw [e] at hi
        obtain ⟨_, y, hy, ey⟩ := hi
        exact ⟨y, hy, by rw [ey]; exact h1 l e⟩
    obtain ⟨y, hy, ey⟩ := lo
    refine reach c hd hy ey fun b hb => ?_
    unfold supF at h2
    rw [if_neg c] at h2
    cases e : least (bounds p q hs) with
    | none => exact nomatch least_none e _ hb
    | some s =>
      have a := h2 s e
      have b' := (least_some e).2 b hb
      grind
theorem mkH_dir {p q r : Rat} (h : ¬ (p = 0 ∧ q = 0)) : Dir (mkH p q r) := fun ⟨a, b⟩ => by
  obtain ⟨t, ht, h1, h2, h3⟩ := mkH_spec (r := r) h
  rw [a] at h1
  rw [b] at h2
  have z0 : ((0 : Int) : Rat) = 0 := rfl
  rw [z0] at h1 h2
  refine h ⟨?_, ?_⟩
  · exact (Rat.mul_eq_zero.mp h1.symm).resolve_left (by grind)
  · exact (Rat.mul_eq_zero.mp h2.symm).resolve_left (by grind)
theorem n10 : ¬ ((1 : Rat) = 0 ∧ (0 : Rat) = 0) := fun h => absurd h.1 (by decide)
end PG

set_option maxRecDepth 100000
set_option maxHeartbeats 4000000

namespace PG
open PySem PySem.Spec PyProof.Rows L2 RT
theorem fov_rng {p q : Rat} (h0 : ¬ (p = 0 ∧ q = 0)) {hs : List Hp3} (hd : ∀ g ∈ hs, Dir g) : boundsF p q hs = if emptyB hs = true then none else some (infF p q hs, supF p q hs) := by
  refine IsRng.unique (boundsF_is h0 hs) ?_
  by_cases c : emptyB hs = true
  · rw [if_pos c]
    rintro x ⟨z, hz, _⟩
    exact (emptyB_iff hd).mp c ⟨z, hz⟩
  · rw [if_neg c]
    obtain ⟨x0, hx⟩ : ∃ x, Rg hs x := Classical.byContradiction fun n => c ((emptyB_iff hd).mpr n)
    refine ⟨fun x => ⟨?_, ?_⟩, lin2 p q x0, x0, hx, rfl⟩
    · rintro ⟨z, hz, e⟩
      have e' : lin2 p q z = x := e
      refine ⟨fun l el => ?_, fun u eu => ?_⟩
      · have := inf_is (p := p) (q := q) hd hx
        have el' : infF p q hs = some l := el
        rw [el'] at this
        rw [← e']
        exact this.1 z hz
      · have := sup_is (p := p) (q := q) hd hx
        have eu' : supF p q hs = some u := eu
        rw [eu'] at this
        rw [← e']
        exact this.1 z hz
    · rintro ⟨h1, h2⟩
      obtain ⟨z, hz, e⟩ := mid hd hx (m := x) h1 h2
      exact ⟨z, hz, e⟩

end PG

set_option maxRecDepth 100000
set_option maxHeartbeats 4000000

namespace PG
open PySem PySem.Spec PyProof.Rows L2 RT
section
variable {st : List Cell} {Q : Vl → List Cell → Prop}
end
end PG

set_option maxRecDepth 100000
set_option maxHeartbeats 4000000
namespace PG
open PySem PySem.Spec PyProof.Rows L2 RT
section
variable {st : List Cell} {Q : Vl → List Cell → Prop}
end
end PG

set_option maxRecDepth 100000
set_option maxHeartbeats 4000000

namespace PG
open PySem PySem.Spec PyProof.Rows L2 RT
theorem filt_map {α : Type} {f h : α → Dt} {p : α → Bool} {sl slw : List (Option Vl)} {i : Nat} {tt : DT} {te : DE} {all : List Dt} {st : List Cell} {K : List Dt → M → Prop} :
    ∀ (xs acc : List α), (∀ a ∈ xs, ∀ (P : Bool → M → Prop), P (p a) ⟨slw.set i (some (.d (f a))), st⟩ → tt ⟨slw.set i (some (.d (f a))), st⟩ P) → (∀ a ∈ xs, ∀ (C : Vl → M → Prop), C (.d (h a)) ⟨slw.set i (some (.d (f a))), st⟩ → te ⟨slw.set i (some (.d (f a))), st⟩ C) →
      acc.length + xs.length ≤ 100000 → K ((acc ++ xs.filter p).map h) ⟨sl, st⟩ → dLcGo sl slw (.nm i) tt te all none K (xs.map f) (acc.map h) st
  | [], acc, _, _, _, hK => ⟨trivial, by rw [List.filter_nil, List.append_nil] at hK; exact hK⟩
  | x :: xs, acc, ht, he, hl, hK => by
    rw [List.length_cons] at hl
    refine ⟨trivial, ht x List.mem_cons_self _ ?_⟩
    have ht' := fun a (ha : a ∈ xs) => ht a (List.mem_cons_of_mem _ ha)
    have he' := fun a (ha : a ∈ xs) => he a (List.mem_cons_of_mem _ ha)
    cases hp : p x with
    | true =>
      rw [if_pos rfl]
      refine he x List.mem_cons_self _ ⟨by rw [List.length_map]; exact small_lt (by omega), ?_⟩
      have := filt_map (all := all) (K := K) xs (acc ++ [x]) ht' he' (by rw [List.length_append, List.length_singleton]; omega) (by rw [List.append_assoc]; rw [List.filter_cons, if_pos hp] at hK; exact hK)
      rw [List.map_append] at this
      exact this
    | false =>
      exact filt_map (K := K) xs acc ht' he' (by omega) (by rw [List.filter_cons, if_neg (by rw [hp]; decide)] at hK; exact hK)
section
variable {st : List Cell} {Q : Vl → List Cell → Prop}
end
end PG

set_option maxRecDepth 100000
set_option maxHeartbeats 4000000
namespace PG
open PySem PySem.Spec PyProof.Rows L2 RT
section
variable {st : List Cell} {Q : Vl → List Cell → Prop}
end
end PG

set_option maxRecDepth 100000
set_option maxHeartbeats 4000000
namespace PG
open PySem PySem.Spec PyProof.Rows L2 RT
structure Lg (k L : Nat) (d : Dt) : Prop where
  shw : (toPy d).showable = true
  dep : (toPy d).depth ≤ k
  len : (toPy d).shown.length ≤ L
theorem Lg.le {k L k' L' : Nat} {d : Dt} (h : Lg k L d) (h1 : k ≤ k') (h2 : L ≤ L') : Lg k' L' d := ⟨h.shw, Nat.le_trans h.dep h1, Nat.le_trans h.len h2⟩
theorem lg_int {i : Int} (h : i.natAbs.log2 ≤ 1900) : Lg 0 600 (.int i) := by
  obtain ⟨a, b, _⟩ := sx_int2 h
  refine ⟨a, Nat.le_refl _, ?_⟩
  simp only [toPy, PyData.intsShort, decide_eq_true_eq] at b
  exact b
theorem lg_all {k L : Nat} : ∀ {ds : List Dt}, (∀ d ∈ ds, Lg k L d) → PyData.showableAll (toPys ds) = true ∧ PyData.depthAll (toPys ds) ≤ k ∧ ((PyData.shownAll (toPys ds)).map (·.length)).sum ≤ ds.length * L ∧ (PyData.shownAll (toPys ds)).length = ds.length
  | [], _ => by simp [toPys, PyData.showableAll, PyData.depthAll, PyData.shownAll]
  | d :: ds, h => by
    obtain ⟨a1, a2, a3⟩ := h d List.mem_cons_self
    obtain ⟨b1, b2, b3, b4⟩ := lg_all fun e he => h e (List.mem_cons_of_mem d he)
    refine ⟨?_, depths fun e he => (h e he).dep, ?_, ?_⟩
    · simp only [toPys, PyData.showableAll, a1, b1, Bool.and_self]
    · simp only [toPys, PyData.shownAll, List.map_cons, List.sum_cons, List.length_cons, Nat.succ_mul]
      omega
    · simp only [toPys, PyData.shownAll, List.length_cons, b4]
theorem lg_lst {k L : Nat} {ds : List Dt} (h : ∀ d ∈ ds, Lg k L d) : Lg (k + 1) (ds.length * (L + 2) + 3) (.lst ds) := by
  obtain ⟨b1, b2, b3, b4⟩ := lg_all h
  refine ⟨?_, ?_, ?_⟩
  · simp only [toPy, PyData.showable]
    exact b1
  · simp only [toPy, PyData.depth]
    omega
  · have h2 := listText_len_le (PyData.shownAll (toPys ds))
    simp only [toPy, PyData.shown]
    rw [Nat.mul_add]
    omega
theorem lg_tup {k L : Nat} {ds : List Dt} (h : ∀ d ∈ ds, Lg k L d) : Lg (k + 1) (ds.length * (L + 2) + 3) (.tup ds) := by
  obtain ⟨b1, b2, b3, b4⟩ := lg_all h
  refine ⟨?_, ?_, ?_⟩
  · simp only [toPy, PyData.showable]
    exact b1
  · simp only [toPy, PyData.depth]
    omega
  · have h2 := tupleText_len_le (PyData.shownAll (toPys ds))
    simp only [toPy, PyData.shown]
    rw [Nat.mul_add]
    omega
theorem Lg.shows {k L : Nat} {d : Dt} (h : Lg k L d) (hk : k ≤ 60) (hL : L ≤ 16000000) : shows d := by
  refine ⟨h.shw, Nat.le_trans h.dep hk, ?_⟩
  have := h.len
  show (toPy d).shown.length ≤ 16777216
  omega
theorem lg_non : Lg 0 600 .non := ⟨rfl, Nat.le_refl _, by show (PyData.shown .none).length ≤ 600; decide⟩
section
variable {ds : List Int} {i k : Nat} {st : List Cell} {Q : Vl → List Cell → Prop}
end
section
variable {st : List Cell} {Q : Vl → List Cell → Prop}
end
end PG

set_option maxRecDepth 100000
set_option maxHeartbeats 4000000

namespace PG
open PySem PySem.Spec PyProof.Rows L2 RT
section
variable {st : List Cell} {Q : Vl → List Cell → Prop}
theorem lplane9_ok {p q r : Rat} (h0 : ¬ (p = 0 ∧ q = 0)) (hp : zb p ≤ 1000000) (hq : zb q ≤ 1000000) (hr : zb r ≤ 1000000) (h : Q (.d (hpD (mkH p q r))) st) : sp__law_plane [.d (fr p), .d (fr q), .d (fr r)] st Q := by
  have p1 := zb_num p
  have p2 := zb_den p
  have q1 := zb_num q
  have q2 := zb_den q
  have r1 := zb_num r
  have r2 := zb_den r
  have dp := den_pos' p
  have dq := den_pos' q
  have dr := den_pos' r
  have m1 := @log2_mul_le p.den q.den
  have m2 := @log2_mul_le q.den r.den
  have m3 := @log2_mul_le p.den r.den
  have f1 : ((p.den : Int) * q.den * r.den).fdiv p.den = q.den * r.den := by
    rw [Int.mul_assoc, Int.mul_fdiv_cancel_left _ (by omega)]
  have f2 : ((p.den : Int) * q.den * r.den).fdiv q.den = p.den * r.den := by
    rw [Int.mul_comm (p.den : Int), Int.mul_assoc, Int.mul_fdiv_cancel_left _ (by omega)]
  have f3 : ((p.den : Int) * q.den * r.den).fdiv r.den = p.den * q.den := by
    rw [Int.mul_fdiv_cancel _ (by omega)]
  unfold sp__law_plane
  refine ⟨rfl, ?_⟩
  let S : Option Vl → Option Vl → Option Vl → Option Vl → M := fun z4 z5 z6 z7 => ⟨[some (.d (fr p)), some (.d (fr q)), some (.d (fr r)), some (.d (.int ((p.den : Int) * q.den * r.den))), z4, z5, z6, z7], st⟩
  refine seq_to (S none none none none) (fun K hK => ?_) ?_
  · exact ⟨mulok (by rw [Int.natAbs_natCast, Int.natAbs_natCast]; exact zm (by omega)), mulok (by rw [Int.natAbs_mul, Int.natAbs_natCast, Int.natAbs_natCast, Int.natAbs_natCast]; exact zm (by omega)), hK⟩
  refine seq_to (S none (some (.d (.lst ([mkX p q r, mkY p q r, mkZ p q r].map .int)))) none none) (fun K hK => ?_) ?_
  · refine dlc_map fr (fun x => Dt.int (x.num * (((p.den : Int) * q.den * r.den).fdiv x.den))) (xs := [p, q, r]) (fun K2 h2 => ⟨slt rfl, h2⟩) (fun x hx C hC => ?_) (Nat.le_of_ble_eq_true rfl) ?_
    · refine ⟨den_pos x, ?_⟩
      refine ⟨?_, hC _⟩
      show MulOk x.num (((p.den : Int) * q.den * r.den).fdiv x.den)
      rcases List.mem_cons.mp hx with e | hx
      · rw [e, f1]
        exact mulok (by rw [Int.natAbs_mul, Int.natAbs_natCast, Int.natAbs_natCast]; exact zm (by omega))
      · rcases List.mem_cons.mp hx with e | hx
        · rw [e, f2]
          exact mulok (by rw [Int.natAbs_mul, Int.natAbs_natCast, Int.natAbs_natCast]; exact zm (by omega))
        · rw [List.mem_singleton.mp hx, f3]
          exact mulok (by rw [Int.natAbs_mul, Int.natAbs_natCast, Int.natAbs_natCast]; exact zm (by omega))
    · have e : [p, q, r].map (fun x => Dt.int (x.num * (((p.den : Int) * q.den * r.den).fdiv x.den))) = [mkX p q r, mkY p q r, mkZ p q r].map .int := by
        show [Dt.int (p.num * (((p.den : Int) * q.den * r.den).fdiv p.den)), .int (q.num * (((p.den : Int) * q.den * r.den).fdiv q.den)), .int (r.num * (((p.den : Int) * q.den * r.den).fdiv r.den))] = _
        rw [f1, f2, f3]
        rfl
      rw [e]
      exact hK
  have g0 := mkG_pos (r := r) h0
  have eG : (([mkX p q r, mkY p q r, mkZ p q r].foldl (fun (g : Nat) (x : Int) => Nat.gcd g x.natAbs) 0 : Nat) : Int) = mkG p q r := by
    show ((Nat.gcd (Nat.gcd (Nat.gcd 0 (mkX p q r).natAbs) (mkY p q r).natAbs) (mkZ p q r).natAbs : Nat) : Int) = _
    rw [Nat.gcd_zero_left]
    rfl
  refine seq_to (S none (some (.d (.lst ([mkX p q r, mkY p q r, mkZ p q r].map .int)))) (some (.d (.int ((0 : Nat) : Int)))) none) (fun K hK => hK) ?_
  refine seq_mid (fun m => ∃ z4 z7, m = S z4 (some (.d (.lst ([mkX p q r, mkY p q r, mkZ p q r].map .int)))) (some (.d (.int (mkG p q r)))) z7) (fun K hK => ?_) ?_
  · refine each_inv (lk := none) Dt.int (fun xs m => ∃ (g : Nat) (z4 z7 : Option Vl), ((xs.foldl (fun (g : Nat) (x : Int) => Nat.gcd g x.natAbs) g : Nat) : Int) = mkG p q r ∧ m = S z4 (some (.d (.lst ([mkX p q r, mkY p q r, mkZ p q r].map .int)))) (some (.d (.int (g : Int)))) z7) (fun _ _ _ => trivial) ?_ ?_ [mkX p q r, mkY p q r, mkZ p q r] _ ⟨0, none, none, eG, rfl⟩
    · rintro w xs _ K2 hK2 ⟨g, z4, z7, he, rfl⟩
      rw [List.foldl_cons] at he
      refine seq_to (S (some (.d (.int w))) (some (.d (.lst ([mkX p q r, mkY p q r, mkZ p q r].map .int)))) (some (.d (.int (g : Int)))) (some (.d (.int (w.natAbs : Int))))) (fun K hK => by rw [← abs_eq w] at hK; exact hK) ?_
      refine ⟨fun k m => ∃ x y : Nat, m = S (some (.d (.int w))) (some (.d (.lst ([mkX p q r, mkY p q r, mkZ p q r].map .int)))) (some (.d (.int (x : Int)))) (some (.d (.int (y : Int)))) ∧ k = y ∧ Nat.gcd x y = Nat.gcd g w.natAbs, ⟨w.natAbs, g, w.natAbs, rfl, rfl, rfl⟩, ?_⟩
      rintro y m ⟨x, _, rfl, rfl, hgc⟩
      refine ⟨trivial, ?_⟩
      show if (decide ((0 : Int) < y)) = true then _ else _
      by_cases hy : (0 : Int) < y
      · rw [if_pos (decide_eq_true hy)]
        refine ⟨by omega, ?_⟩
        refine ⟨x % y, Nat.mod_lt _ (by omega), y, x % y, ?_, rfl, ?_⟩
        · rw [Int.natCast_emod, ← Int.fmod_eq_emod_of_nonneg _ (by omega)]
          rfl
        · rw [← hgc, Nat.gcd_comm x y, Nat.gcd_rec y x, Nat.gcd_comm]
      · rw [if_neg (by simp; omega)]
        have e : y = 0 := by omega
        subst e
        rw [Nat.gcd_zero_right] at hgc
        rw [← hgc] at he
        exact hK2 _ ⟨x, _, _, he, rfl⟩
    · rintro _ ⟨g, z4, z7, he, rfl⟩
      have he' : (g : Int) = mkG p q r := he
      exact hK _ ⟨z4, z7, by rw [he']⟩
  rintro _ ⟨z4, z7, rfl⟩
  have n0 : mkG p q r ≠ 0 := by omega
  refine ⟨n0, n0, n0, lineN rfl, tk ?_⟩
  show Q (.d (.tup [.int ((mkX p q r).fdiv (mkG p q r)), .int ((mkY p q r).fdiv (mkG p q r)), .int ((mkZ p q r).fdiv (mkG p q r))])) st
  rw [fdiv_pos g0, fdiv_pos g0, fdiv_pos g0]
  exact h
theorem lline2_ok {p q : Rat} {g : Hp3} {n : Nat} (h0 : ¬ (p = 0 ∧ q = 0)) (hp : zb p ≤ n) (hq : zb q ≤ n) (hg : HZ n g) (hn : n ≤ 1000000) (h : Q (.d (linD (lineL p q g))) st) : sp__law_line_2 [.d (hpD g), .d (fr p), .d (fr q)] st Q := by
  obtain ⟨y1, y2, y3⟩ := hg.zb
  unfold sp__law_line_2
  refine ⟨rfl, ?_⟩
  let S : Option Vl → M := fun z => ⟨[some (.d (hpD g)), some (.d (fr p)), some (.d (fr q)), some (.d (fr (g.p : Rat))), some (.d (fr (g.q : Rat))), some (.d (fr (g.r : Rat))), z, none], st⟩
  refine seq_to (S none) (fun K hK => ?_) ?_
  · refine lc_map (f := Dt.int) (fun i : Int => fr (i : Rat)) (xs := [g.p, g.q, g.r]) (done := []) (fun x hx C hC => ?_) (Nat.le_of_ble_eq_true rfl) ?_
    · refine ⟨lineN rfl, ?_⟩
      have e : fr (x : Rat) = .tup [.int x, .int 1] := by unfold fr; rw [Rat.num_intCast, Rat.den_intCast]; rfl
      have := hC ((wipeD [some (.d (hpD g)), some (.d (fr p)), some (.d (fr q)), none, none, none, none, none] [7]).set 7 (some (.d (.int x))))
      rw [e] at this
      exact this
    · exact ⟨rfl, hK⟩
  by_cases c : q = 0
  · have e : lineL p q g = ((g.p : Rat) / p, (g.q : Rat), (g.r : Rat)) := by unfold lineL; rw [if_pos c]
    rw [e] at h
    refine guard_st (S none) (fun K hK => ⟨rfl, rfl, ?_⟩) ?_
    · show K (!eqD (.int q.num) (.int 0)) _
      rw [eqD_int, decide_eq_true (Rat.num_eq_zero.mpr c)]
      exact hK
    refine ldiv_ok (x := (g.p : Rat)) (y := p) (fun z => h0 ⟨z, c⟩) (zm (by omega)) ?_
    exact ⟨lineN rfl, tk h⟩
  · have e : lineL p q g = ((g.q : Rat) / q, (g.p : Rat) - (g.q : Rat) / q * p, (g.r : Rat)) := by unfold lineL; rw [if_neg c]
    rw [e] at h
    have s := zb_div (g.q : Rat) q
    have t := zb_mul ((g.q : Rat) / q) p
    refine ifs_t (S none) (fun K hK => ⟨rfl, rfl, ?_⟩) ?_
    · show K (!eqD (.int q.num) (.int 0)) _
      rw [eqD_int, decide_eq_false (fun z => c (Rat.num_eq_zero.mp z))]
      exact hK
    refine seq_to (S (some (.d (fr ((g.q : Rat) / q))))) (fun K hK => ldiv_ok (x := (g.q : Rat)) (y := q) c (zm (by omega)) hK) ?_
    refine lmul2_ok (x := (g.q : Rat) / q) (y := p) (zm (by omega)) ?_
    refine lsub2_ok (x := (g.p : Rat)) (y := (g.q : Rat) / q * p) (zm (by omega)) ?_
    exact ⟨lineN rfl, tk h⟩
theorem lbounds2_ok {p q : Rat} {hs : List Hp3} {n : Nat} (h0 : ¬ (p = 0 ∧ q = 0)) (hp : zb p ≤ n) (hq : zb q ≤ n) (hg : ∀ g ∈ hs, HZ n g) (h2 : 2 ≤ n) (hn : n ≤ 100000) (hl : hs.length ≤ 100) (h : Q (.d (rngD (boundsF p q hs))) st) :
    sp__law_bounds_2 [.d (.lst (hs.map hpD)), .d (fr p), .d (fr q)] st Q := by
  unfold sp__law_bounds_2
  refine ⟨rfl, ?_⟩
  obtain ⟨ls, els⟩ : ∃ ls, hs.map (lineL p q) = ls := ⟨_, rfl⟩
  have lz : ∀ l ∈ ls, LnZ (4 * n) l := fun l hl' => by
    rw [← els] at hl'
    obtain ⟨g, hg', rfl⟩ := List.mem_map.mp hl'
    exact line_z hp hq (hg g hg')
  have lz2 : ∀ l ∈ rowsL ls, LnZ (16 * n) l := fun l hl' => by
    obtain ⟨y1, y2, y3⟩ := rowsL_z lz (by omega) l hl'
    exact ⟨by omega, by omega, by omega⟩
  have lsl : ls.length ≤ 100 := by rw [← els, List.length_map]; exact hl
  have rl := rowsL_len lsl
  have eF : boundsF p q hs = rowsR ((rowsL ls).map fun l => (l.1, l.2.2)) := by
    unfold boundsF
    rw [els]
  rw [eF] at h
  let S0 : Option Vl → Option Dt → Option Dt → Option Dt → Option Dt → List Cell → M := fun z4 z5 z6 z7 z8 c => ⟨[some (.d (.lst (hs.map hpD))), some (.d (fr p)), some (.d (fr q)), some (.d (.lst (ls.map linD))), z4, nv z5, nv z6, nv z7, nv z8, none, none, none, none, none, none, none], c⟩
  refine seq_to (S0 none none none none none st) (fun K hK => ?_) ?_
  · refine dlc_map hpD (fun g => linD (lineL p q g)) (xs := hs) (fun K2 h2 => h2) (fun g hgm C hC => ?_) (by omega) ?_
    · exact lline2_ok h0 hp hq (hg g hgm) (by omega) (hC _)
    · have e : hs.map (fun g => linD (lineL p q g)) = ls.map linD := by rw [← els, List.map_map]; rfl
      rw [e]
      exact hK
  have tst : ∀ {sl : List (Option Vl)} {i : Nat} {a : Ln} {P : Bool → M → Prop} {op : Bool → Bool} {m : M}, True := fun {_ _ _ _ _ _} => trivial
  refine seq_to (S0 (some (.c st.length)) none none none none (st ++ [Cell.lst ((flat ls).map linD)])) (fun K hK => ?_) ?_
  · refine filt_go (f := linD) (p := fun l : Ln => decide (l.2.1 = 0)) (by show 15 < 16; decide) ?_ ls [] (by rw [List.length_nil]; omega) ?_
    · intro a P hP
      refine ⟨rfl, rfl, ?_⟩
      show P (eqD (.int a.2.1.num) (.int 0)) _
      rw [eqD_int, decide_eq_decide.mpr (Rat.num_eq_zero (q := a.2.1))]
      exact hP
    · exact hK
  refine seq_mid (fun m => ∃ z5 z6 z7 z8, m = S0 (some (.c st.length)) z5 z6 z7 z8 (st ++ [Cell.lst ((rowsL ls).map linD)])) (fun K hK => ?_) ?_
  · refine filt_go (f := linD) (p := fun l : Ln => decide (0 < l.2.1)) (by show 15 < 16; decide) ?_ ls [] (by rw [List.length_nil]; omega) ?_
    · intro a P hP
      refine ⟨trivial, ?_⟩
      show P (decide (0 < a.2.1.num)) _
      rw [decide_eq_decide.mpr (num_pos_iff a.2.1)]
      exact hP
    show dLoop (.nm 5) _ _ none _ ((posL ls).map linD) _
    refine each_inv (lk := none) linD (fun r m => ∃ acc z5 z6 z7 z8, (∀ a ∈ r, a ∈ posL ls) ∧ acc ++ (r.flatMap fun a => (negL ls).map (combo a)) = rowsL ls ∧ m = S0 (some (.c st.length)) z5 z6 z7 z8 (st ++ [Cell.lst (acc.map linD)])) (fun _ _ _ => trivial) ?_ ?_ (posL ls) _ ⟨flat ls, none, none, none, none, fun a ha => ha, rfl, rfl⟩
    · rintro a r _ K2 hK2 ⟨acc, z5, z6, z7, z8, hr, he, rfl⟩
      have ha := hr a List.mem_cons_self
      have haz := lz a (List.mem_filter.mp ha).1
      refine filt_go (f := linD) (p := fun l : Ln => decide (l.2.1 < 0)) (by show 15 < 16; decide) ?_ ls [] (by rw [List.length_nil]; omega) ?_
      · intro a P hP
        refine ⟨trivial, ?_⟩
        show P (decide (a.2.1.num < 0)) _
        rw [decide_eq_decide.mpr (num_neg_iff a.2.1)]
        exact hP
      show dLoop (.nm 6) _ _ none _ ((negL ls).map linD) _
      rw [List.flatMap_cons] at he
      refine each_inv (lk := none) linD (fun w m => ∃ acc z6 z7 z8, (∀ b ∈ w, b ∈ negL ls) ∧ acc ++ w.map (combo a) ++ (r.flatMap fun a => (negL ls).map (combo a)) = rowsL ls ∧ m = S0 (some (.c st.length)) (some (linD a)) z6 z7 z8 (st ++ [Cell.lst (acc.map linD)])) (fun _ _ _ => trivial) ?_ ?_ (negL ls) _ ⟨acc, z6, z7, z8, fun b hb => hb, by rw [List.append_assoc]; exact he, rfl⟩
      · rintro b w _ K3 hK3 ⟨acc, z6, z7, z8, hw, he, rfl⟩
        have hb := hw b List.mem_cons_self
        have hbz := lz b (List.mem_filter.mp hb).1
        have nb : b.2.1 ≠ 0 := by
          have := of_decide_eq_true (List.mem_filter.mp hb).2
          grind
        obtain ⟨a1, a2, a3⟩ := haz
        obtain ⟨b1, b2, b3⟩ := hbz
        obtain ⟨c1, c2, c3⟩ := combo_z (n := 4 * n) (a := a) (b := b) ⟨a1, a2, a3⟩ ⟨b1, b2, b3⟩
        have s := zb_div a.2.1 b.2.1
        have w1 := zb_mul (-(a.2.1 / b.2.1)) b.1
        have w2 := zb_mul (-(a.2.1 / b.2.1)) b.2.2
        have al : acc.length ≤ 100 + 100 * 100 := by
          have := congrArg List.length he
          rw [List.length_append, List.length_append] at this
          omega
        let S1 : Option Dt → Option Dt → M := fun z7 z8 => S0 (some (.c st.length)) (some (linD a)) (some (linD b)) z7 z8 (st ++ [Cell.lst (acc.map linD)])
        refine seq_to (S1 (some (fr (-(a.2.1 / b.2.1)))) z8) (fun K hK => ?_) ?_
        · refine ldiv_ok (x := a.2.1) (y := b.2.1) nb (zm (by omega)) ?_
          exact lneg_ok hK
        refine seq_to (S1 (some (fr (-(a.2.1 / b.2.1)))) (some (fr (combo a b).1))) (fun K hK => ?_) ?_
        · refine lmul2_ok (x := -(a.2.1 / b.2.1)) (y := b.1) (zm (by omega)) ?_
          exact ladd2_ok (x := a.1) (y := -(a.2.1 / b.2.1) * b.1) (zm (by omega)) hK
        refine append_st (k := st.length) (xs := acc.map linD) (linD (combo a b)) ?_ ?_ (fun C hC => ?_) (small_lt (by rw [List.length_map]; omega)) ?_
        · rfl
        · exact getElem_last _ _
        · refine ⟨lineN rfl, ?_⟩
          refine lmul2_ok (x := -(a.2.1 / b.2.1)) (y := b.2.2) (zm (by omega)) ?_
          refine ladd2_ok (x := a.2.2) (y := -(a.2.1 / b.2.1) * b.2.2) (zm (by omega)) ?_
          exact ⟨lineN rfl, hC⟩
        · dsimp only
          refine hK3 _ ⟨acc ++ [combo a b], some (linD b), some (fr (-(a.2.1 / b.2.1))), some (fr (combo a b).1), fun x hx => hw x (List.mem_cons_of_mem _ hx), ?_, congrArg (M.mk _) ?_⟩
          · rw [← he, List.map_cons]
            simp only [List.append_assoc, List.cons_append, List.nil_append]
          · rw [set_last, List.map_append]
            rfl
      · rintro _ ⟨acc, z6, z7, z8, _, he, rfl⟩
        exact hK2 _ ⟨acc, _, _, _, _, fun x hx => hr x (List.mem_cons_of_mem _ hx), by rw [← he, List.map_nil, List.append_nil], rfl⟩
    · rintro _ ⟨acc, z5, z6, z7, z8, _, he, rfl⟩
      rw [List.flatMap_nil, List.append_nil] at he
      exact hK _ ⟨_, _, _, _, by rw [he]⟩
  rintro _ ⟨z5, z6, z7, z8, rfl⟩
  obtain ⟨R, eR⟩ : ∃ R, rowsL ls = R := ⟨_, rfl⟩
  rw [eR] at lz2 rl h ⊢
  obtain ⟨T, eT⟩ : ∃ T, R.map (fun l : Ln => (l.1, l.2.2)) = T := ⟨_, rfl⟩
  rw [eT] at h
  let S : Option Vl → Option Vl → Option Dt → Option Vl → Option Vl → List Cell → M := fun z9 z10 z11 z12 z13 c => ⟨[some (.d (.lst (hs.map hpD))), some (.d (fr p)), some (.d (fr q)), some (.d (.lst (ls.map linD))), some (.c st.length), nv z5, nv z6, nv z7, nv z8, z9, z10, nv z11, z12, z13, none, none], c⟩
  let C3 : List Rat → List Rat → List Cell := fun lo hi => st ++ [Cell.lst (R.map linD), Cell.lst (lo.map fr), Cell.lst (hi.map fr)]
  refine seq_to (S (some (.c (st.length + 1))) none none none none (st ++ [Cell.lst (R.map linD), Cell.lst []])) (fun K hK => ⟨lineN rfl, ?_⟩) ?_
  · have e : (st ++ [Cell.lst (R.map linD)]).length = st.length + 1 := List.length_append
    show K ⟨[_, _, _, _, _, _, _, _, _, some (.c (st ++ [Cell.lst (R.map linD)]).length), _, _, _, _, _, _], (st ++ [Cell.lst (R.map linD)]) ++ [Cell.lst []]⟩
    rw [e, List.append_assoc]
    exact hK
  refine seq_to (S (some (.c (st.length + 1))) (some (.c (st.length + 2))) none none none (C3 [] [])) (fun K hK => ⟨lineN rfl, ?_⟩) ?_
  · have e : (st ++ [Cell.lst (R.map linD), Cell.lst []]).length = st.length + 2 := List.length_append
    show K ⟨[_, _, _, _, _, _, _, _, _, _, some (.c (st ++ [Cell.lst (R.map linD), Cell.lst []]).length), _, _, _, _, _], (st ++ [Cell.lst (R.map linD), Cell.lst []]) ++ [Cell.lst []]⟩
    rw [e, List.append_assoc]
    exact hK
  have tkC : ∀ {v : Vl} {lo hi : List Rat}, Q v st → Q v ((C3 lo hi).take st.length) := fun {v lo hi} h => tk0 h
  have bound : ∀ x ∈ R, zb (x.2.2 / x.1) ≤ 32 * n := fun x hx => by
    obtain ⟨y1, _, y3⟩ := lz2 x hx
    have := zb_div x.2.2 x.1
    omega
  refine seq_mid (fun m => T.any badR = false ∧ ∃ z11, m = S (some (.c (st.length + 1))) (some (.c (st.length + 2))) z11 none none (C3 (los T) (ups T))) (fun K hK => ?_) ?_
  · show onC (C3 [] []) st.length _
    refine onC_mk at0 ?_
    refine each_inv (lk := some st.length) linD (fun r m => ∃ done z11, done ++ r = R ∧ (done.map fun l : Ln => (l.1, l.2.2)).any badR = false ∧ m = S (some (.c (st.length + 1))) (some (.c (st.length + 2))) z11 none none (C3 (los (done.map fun l : Ln => (l.1, l.2.2))) (ups (done.map fun l : Ln => (l.1, l.2.2))))) ?_ ?_ ?_ R _ ⟨[], none, rfl, rfl, rfl⟩
    · rintro r _ ⟨done, z11, _, _, rfl⟩
      exact at0
    · rintro x r _ K2 hK2 ⟨done, z11, he, hb, rfl⟩
      have hx : x ∈ R := by
        rw [← he]
        exact List.mem_append_right _ List.mem_cons_self
      have hdl : done.length ≤ 100 + 100 * 100 := by
        have := congrArg List.length he
        rw [List.length_append] at this
        omega
      obtain ⟨y1, _, y3⟩ := lz2 x hx
      obtain ⟨D, eD⟩ : ∃ D, done.map (fun l : Ln => (l.1, l.2.2)) = D := ⟨_, rfl⟩
      have Dl : D.length ≤ 100 + 100 * 100 := by rw [← eD, List.length_map]; exact hdl
      have lol : (los D).length ≤ 100 + 100 * 100 := by
        unfold los
        rw [List.length_map]
        exact Nat.le_trans (List.length_filter_le _ _) Dl
      have upl : (ups D).length ≤ 100 + 100 * 100 := by
        unfold ups
        rw [List.length_map]
        exact Nat.le_trans (List.length_filter_le _ _) Dl
      have fin : badR (x.1, x.2.2) = false → K2 (S (some (.c (st.length + 1))) (some (.c (st.length + 2))) (some (linD x)) none none (C3 (los (D ++ [(x.1, x.2.2)])) (ups (D ++ [(x.1, x.2.2)])))) := fun hbx => by
        refine hK2 _ ⟨done ++ [x], some (linD x), by rw [List.append_assoc]; exact he, ?_, ?_⟩
        · rw [List.map_append, List.any_append, hb]
          show (false || (badR (x.1, x.2.2) || false)) = false
          rw [hbx]
          rfl
        · rw [List.map_append, eD]
          rfl
      rw [eD] at hb ⊢
      rw [los_snoc, ups_snoc] at fin
      let U : List Rat → List Rat → M := fun a b => S (some (.c (st.length + 1))) (some (.c (st.length + 2))) (some (linD x)) none none (C3 a b)
      have n0 : (x.1.num = 0) ↔ x.1 = 0 := Rat.num_eq_zero
      by_cases cb : badR (x.1, x.2.2) = true
      · have eN : rowsR T = none := by
          unfold rowsR
          rw [if_pos]
          rw [← eT]
          exact List.any_eq_true.mpr ⟨_, List.mem_map.mpr ⟨x, hx, rfl⟩, cb⟩
        rw [eN] at h
        have hc := cb
        unfold badR at hc
        rw [Bool.and_eq_true, decide_eq_true_eq, decide_eq_true_eq] at hc
        refine PG.ifs_t' (U (los D) (ups D)) (fun K hK => ?_) ?_
        · refine ⟨rfl, rfl, ?_⟩
          show if eqD (.int x.1.num) (.int 0) = true then _ else _
          rw [eqD_int, if_pos (decide_eq_true (n0.mpr hc.1))]
          refine ⟨trivial, ?_⟩
          show K (decide (x.2.2.num < 0)) _
          rw [decide_eq_true ((num_neg_iff _).mpr hc.2)]
          exact hK
        · exact ⟨lineN rfl, tkC h⟩
      · have cb' : badR (x.1, x.2.2) = false := by simpa using cb
        replace fin := fin cb'
        refine guard_st (U (los D) (ups D)) (fun K hK => ?_) ?_
        · refine ⟨rfl, rfl, ?_⟩
          show if eqD (.int x.1.num) (.int 0) = true then _ else _
          rw [eqD_int]
          refine ifd (fun c => ?_) fun c => hK
          refine ⟨trivial, ?_⟩
          show K (decide (x.2.2.num < 0)) _
          have : ¬ x.2.2.num < 0 := fun z => by
            unfold badR at cb'
            rw [decide_eq_true (n0.mp c), decide_eq_true ((num_neg_iff _).mp z)] at cb'
            cases cb'
          rw [decide_eq_false this]
          exact hK
        refine seq_to (U (los D) (ups D ++ (if 0 < x.1 then [x.2.2 / x.1] else []))) (fun K hK => ?_) ?_
        · refine ⟨trivial, ?_⟩
          show if decide (0 < x.1.num) = true then _ else _
          refine ifd (fun c => ?_) fun c => ?_
          · have c' := (num_pos_iff _).mp c
            rw [if_pos c'] at hK
            refine append_st (k := st.length + 2) (xs := (ups D).map fr) (fr (x.2.2 / x.1)) ?_ ?_ (fun C hC => ?_) (small_lt (by rw [List.length_map]; omega)) ?_
            · rfl
            · exact at2
            · exact ldiv_ok (x := x.2.2) (y := x.1) (by grind) (zm (by omega)) hC
            · show K ⟨_, (st ++ _).set (st.length + 2) _⟩
              rw [set2]
              dsimp only [U, S, C3] at hK
              rw [List.map_append] at hK
              exact hK
          · rw [if_neg (fun z => c ((num_pos_iff _).mpr z)), List.append_nil] at hK
            exact hK
        refine ⟨trivial, ?_⟩
        show if decide (x.1.num < 0) = true then _ else _
        refine ifd (fun c => ?_) fun c => ?_
        · have c' := (num_neg_iff _).mp c
          rw [if_pos c'] at fin
          refine append_st (k := st.length + 1) (xs := (los D).map fr) (fr (x.2.2 / x.1)) ?_ ?_ (fun C hC => ?_) (small_lt (by rw [List.length_map]; omega)) ?_
          · rfl
          · exact at1
          · exact ldiv_ok (x := x.2.2) (y := x.1) (by grind) (zm (by omega)) hC
          · show K2 ⟨_, (st ++ _).set (st.length + 1) _⟩
            rw [set1]
            dsimp only [S, C3] at fin
            rw [List.map_append (l₁ := los D)] at fin
            exact fin
        · rw [if_neg (fun z => c ((num_neg_iff _).mpr z)), List.append_nil] at fin
          exact fin
    · rintro _ ⟨done, z11, he, hb, rfl⟩
      rw [List.append_nil] at he
      rw [he, eT] at hb ⊢
      exact hK _ ⟨hb, z11, rfl⟩
  rintro _ ⟨hb, z11, rfl⟩
  have zlo : ∀ x ∈ los T, zb x ≤ 32 * n := fun x hx => by
    obtain ⟨r, hr, rfl⟩ := List.mem_map.mp hx
    have := (List.mem_filter.mp hr).1
    rw [← eT] at this
    obtain ⟨l, hl', rfl⟩ := List.mem_map.mp this
    exact bound l hl'
  have zup : ∀ x ∈ ups T, zb x ≤ 32 * n := fun x hx => by
    obtain ⟨r, hr, rfl⟩ := List.mem_map.mp hx
    have := (List.mem_filter.mp hr).1
    rw [← eT] at this
    obtain ⟨l, hl', rfl⟩ := List.mem_map.mp this
    exact bound l hl'
  obtain ⟨lo, elo⟩ : ∃ lo, greatest ((los T).map some) = lo := ⟨_, rfl⟩
  obtain ⟨hi, ehi⟩ : ∃ hi, least ((ups T).map some) = hi := ⟨_, rfl⟩
  have eRR : rowsR T = rngOf lo hi := by
    unfold rowsR
    rw [if_neg (by rw [hb]; exact Bool.false_ne_true), elo, ehi]
  rw [eRR] at h
  have tkD : ∀ {v : Vl} {c : List Cell}, Q v st → Q v ((st ++ c).take st.length) := fun {v c} h => tk0 h
  let C4 : Cell → Cell → List Cell := fun a b => st ++ [Cell.lst (R.map linD), a, b]
  refine seq_to (S (some (.d (.lst ((los T).map fr)))) (some (.c (st.length + 2))) z11 (some (.d (ofr lo))) none (C4 .dead (.lst ((ups T).map fr)))) (fun K hK => ?_) ?_
  · unfold dSet dCall dCons
    refine fz_at (i := 9) (k := st.length + 1) (m := S (some (.c (st.length + 1))) (some (.c (st.length + 2))) z11 none none (C3 (los T) (ups T))) (xs := (los T).map fr) rfl at1 ?_
    have e : frz (st.length + 1) ((los T).map fr) (S (some (.c (st.length + 1))) (some (.c (st.length + 2))) z11 none none (C3 (los T) (ups T))) = S (some (.d (.lst ((los T).map fr)))) (some (.c (st.length + 2))) z11 none none (C4 .dead (.lst ((ups T).map fr))) := by
      unfold frz
      simp only [S, C3, C4, List.map_cons, List.map_nil, set1, if_neg (show ¬ st.length = st.length + 1 by omega), if_neg (show ¬ st.length + 2 = st.length + 1 by omega), if_true]
      cases z5 <;> cases z6 <;> cases z7 <;> cases z8 <;> cases z11 <;> rfl
    rw [e]
    refine lgreatest_ok zlo (zm (by omega)) ?_
    rw [elo]
    exact hK
  refine seq_to (S (some (.d (.lst ((los T).map fr)))) (some (.d (.lst ((ups T).map fr)))) z11 (some (.d (ofr lo))) (some (.d (ofr hi))) (C4 .dead .dead)) (fun K hK => ?_) ?_
  · unfold dSet dCall dCons
    refine fz_at (i := 10) (k := st.length + 2) (m := S (some (.d (.lst ((los T).map fr)))) (some (.c (st.length + 2))) z11 (some (.d (ofr lo))) none (C4 .dead (.lst ((ups T).map fr)))) (xs := (ups T).map fr) rfl at2 ?_
    have e : frz (st.length + 2) ((ups T).map fr) (S (some (.d (.lst ((los T).map fr)))) (some (.c (st.length + 2))) z11 (some (.d (ofr lo))) none (C4 .dead (.lst ((ups T).map fr)))) = S (some (.d (.lst ((los T).map fr)))) (some (.d (.lst ((ups T).map fr)))) z11 (some (.d (ofr lo))) none (C4 .dead .dead) := by
      unfold frz
      simp only [S, C4, List.map_cons, List.map_nil, set2, if_neg (show ¬ st.length = st.length + 2 by omega), if_true]
      cases z5 <;> cases z6 <;> cases z7 <;> cases z8 <;> cases z11 <;> rfl
    rw [e]
    refine lleast3_ok zup (zm (by omega)) ?_
    rw [ehi]
    exact hK
  have zl : ∀ l, lo = some l → zb l ≤ 32 * n := fun l e => by
    rw [e] at elo
    obtain ⟨m, _⟩ := greatest_some elo
    obtain ⟨a, ha, e2⟩ := List.mem_map.mp m
    cases e2
    exact zlo l ha
  have zh : ∀ l, hi = some l → zb l ≤ 32 * n := fun l e => by
    rw [e] at ehi
    obtain ⟨m, _⟩ := least_some ehi
    obtain ⟨a, ha, e2⟩ := List.mem_map.mp m
    cases e2
    exact zup l ha
  have ret : crossed lo hi = false → dRet (dTup (dCons (dVar 12) (dCons (dVar 13) dNil))) (endsOf false st.length Q) (S (some (.d (.lst ((los T).map fr)))) (some (.d (.lst ((ups T).map fr)))) z11 (some (.d (ofr lo))) (some (.d (ofr hi))) (C4 .dead .dead)) := fun hc => by
    unfold rngOf at h
    rw [if_neg (by rw [hc]; exact Bool.false_ne_true)] at h
    exact ⟨lineN rfl, tkD h⟩
  cases lo with
  | none => exact ret (by cases hi <;> rfl)
  | some l =>
    cases hi with
    | none => exact ret rfl
    | some u =>
      refine less_ok (x := u) (y := l) (zm (by have := zl l rfl; have := zh u rfl; omega)) ?_
      show if decide (u < l) = true then _ else _
      by_cases c : u < l
      · rw [if_pos (decide_eq_true c)]
        unfold rngOf at h
        rw [if_pos (show crossed (some l) (some u) = true from decide_eq_true c)] at h
        exact ⟨lineN rfl, tkD h⟩
      · rw [if_neg (by simpa using c)]
        exact ret (decide_eq_false c)
end
end PG

set_option maxRecDepth 100000
set_option maxHeartbeats 4000000
namespace PG
open PySem PySem.Spec PyProof.Rows L2 RT
theorem not_empty {hs : List Hp3} (hd : ∀ g ∈ hs, Dir g) (he : emptyB hs = false) : ∃ x, Rg hs x := by
  refine Classical.byContradiction fun hno => ?_
  have := (emptyB_iff hd).mpr hno
  rw [he] at this
  cases this
section
variable {st : List Cell} {Q : Vl → List Cell → Prop} {hs : List Hp3} {n : Nat} {g : Hp3} {x : Ray}
theorem inf_z {p q : Rat} (hp : zb p ≤ n) (hq : zb q ≤ n) (hg : ∀ g ∈ hs, HZ n g) : ∀ b, infF p q hs = some b → zb b ≤ 20 * n + 2 := fun b e => by
  unfold infF at e
  obtain ⟨s, h1, h2⟩ := Option.map_eq_some_iff.mp e
  rw [← h2, zb_neg]
  exact sup_z (by rw [zb_neg]; exact hp) (by rw [zb_neg]; exact hq) hg s h1
end
end PG

set_option maxRecDepth 100000
set_option maxHeartbeats 4000000
namespace PG
open PySem PySem.Spec PyProof.Rows L2 RT

end PG

set_option maxRecDepth 100000
set_option maxHeartbeats 4000000
namespace PG
open PySem PySem.Spec PyProof.Rows L2 RT

end PG

set_option maxRecDepth 100000
set_option maxHeartbeats 4000000
namespace PG
open PySem PySem.Spec PyProof.Rows L2 RT
section
variable {ds : List Int} {i k : Nat} {st : List Cell} {Q : Vl → List Cell → Prop} {hs : List Hp3}
end
end PG

set_option maxRecDepth 100000
set_option maxHeartbeats 4000000

namespace PG
open PySem PySem.Spec PyProof.Rows L2 RT
def impB (hs : List Hp3) (g : Hp3) : Bool := emptyB hs || (match supF g.p g.q hs with
  | none => false
  | some b => decide (b ≤ (g.r : Rat)))
section
variable {st : List Cell} {Q : Vl → List Cell → Prop}
theorem sup_zz {hs : List Hp3} {p q : Rat} {n : Nat} (hp : zb p ≤ n) (hq : zb q ≤ n) (hg : ∀ g ∈ hs, HZ n g) : ∀ b, supF p q hs = some b → zb b ≤ 20 * n + 2 := fun b e => by
  have := inf_z (p := -p) (q := -q) (n := n) (hs := hs) (by rw [zb_neg]; exact hp) (by rw [zb_neg]; exact hq) hg (-b) (by
    unfold infF
    rw [Rat.neg_neg, Rat.neg_neg, e]
    rfl)
  rw [zb_neg] at this
  exact this
theorem implied_ok {hs : List Hp3} {g : Hp3} {n : Nat} (hd : ∀ g ∈ hs, Dir g) (hz : ∀ g ∈ hs, HZ n g) (hg : HZ n g) (hn : n ≤ 10000) (hl : hs.length ≤ 45) (h : Q (.d (.bl (impB hs g))) st) : sp_is_implied [.d (.lst (hs.map hpD)), .d (hpD g)] st Q := by
  obtain ⟨y1, y2, y3⟩ := hg.zb
  unfold sp_is_implied
  refine ⟨rfl, ?_⟩
  let S : Option Vl → M := fun z => ⟨[some (.d (.lst (hs.map hpD))), some (.d (hpD g)), z], st⟩
  unfold impB at h
  by_cases c : emptyB hs = true
  · rw [c, Bool.true_or] at h
    exact PG.ifs_t' (S none) (fun K hK => empty_ok hz (by omega) hl (by rw [c]; exact hK)) (tk h)
  have c' : emptyB hs = false := by simpa using c
  rw [c', Bool.false_or] at h
  refine guard_st (S none) (fun K hK => empty_ok hz (by omega) hl (by rw [c']; exact hK)) ?_
  refine seq_to (S (some (.d (ofr (supF g.p g.q hs))))) (fun K hK => ?_) ?_
  · refine frac1_ok ?_
    refine frac1_ok ?_
    exact sup_ok (n := n) hd y1 y2 hz (by omega) (by omega) hK
  have sz := sup_zz (n := n) y1 y2 hz
  cases hs' : supF g.p g.q hs with
  | none =>
    rw [hs'] at h
    exact tk h
  | some b =>
    rw [hs'] at h
    have bz := sz b hs'
    refine frac1_ok ?_
    refine compare_ok (x := b) (y := (g.r : Rat)) (zm (by omega)) ?_
    refine ⟨trivial, tk ?_⟩
    have e : decide (sgn (b - (g.r : Rat)) ≤ 0) = decide (b ≤ (g.r : Rat)) := by
      refine decide_eq_decide.mpr ?_
      unfold sgn
      grind
    show Q (.d (.bl (decide (sgn (b - (g.r : Rat)) ≤ 0)))) st
    rw [e]
    exact h
end
end PG

set_option maxRecDepth 100000
set_option maxHeartbeats 4000000

namespace PG
open PySem PySem.Spec PyProof.Rows L2 RT
section
variable {st : List Cell} {Q : Vl → List Cell → Prop}

theorem bnd2 {hs : List Hp3} {p q : Rat} (hd : ∀ g ∈ hs, Dir g) (h0 : ¬ (p = 0 ∧ q = 0)) (he : emptyB hs = false) : boundsF p q hs = some (infF p q hs, supF p q hs) := by
  rw [fov_rng h0 hd, if_neg (by rw [he]; exact Bool.false_ne_true)]
theorem dirQ {g : Hp3} (h : Dir g) : ¬ ((g.p : Rat) = 0 ∧ (g.q : Rat) = 0) := fun ⟨a, b⟩ => h ⟨Rat.intCast_eq_zero_iff.mp a, Rat.intCast_eq_zero_iff.mp b⟩
theorem limplied_ok {hs : List Hp3} {g : Hp3} (hp : ∀ g ∈ hs, Pg g) (hg : Pg g) (hl : hs.length ≤ 90) (h : Q (.d (.bl (impB hs g))) st) : sp__law_implied [.d (.lst (hs.map hpD)), .d (hpD g)] st Q := by
  have hd : ∀ g ∈ hs, Dir g := fun g hg => (hp g hg).1
  have hz : ∀ g ∈ hs, HZ 30 g := fun g hg => (hp g hg).z
  obtain ⟨y1, y2, y3⟩ := hg.z.zb
  have nz := dirQ hg.1
  unfold sp__law_implied
  refine ⟨rfl, ?_⟩
  let S : Rng → M := fun o => ⟨[some (.d (.lst (hs.map hpD))), some (.d (hpD g)), some (.d (rngD o))], st⟩
  refine seq_to (S (boundsF g.p g.q hs)) (fun K hK => ?_) ?_
  · refine ⟨lineN rfl, lineN rfl, ?_⟩
    show sp__law_bounds_2 [.d (.lst (hs.map hpD)), .d (.tup [.int g.p, .int 1]), .d (.tup [.int g.q, .int 1])] _ _
    rw [← fr_i, ← fr_i]
    exact lbounds2_ok (p := (g.p : Rat)) (q := (g.q : Rat)) (n := 30) nz y1 y2 hz (by decide) (by decide) (by omega) hK
  unfold impB at h
  by_cases c : emptyB hs = true
  · rw [fov_rng nz hd, if_pos c]
    rw [c, Bool.true_or] at h
    refine PG.ifs_t' (S none) (fun K hK => ⟨Nat.zero_le _, sh_rngD, sh_rngD (o := none), ?_⟩) (tk h)
    show K (eqD (rngD none) (.tup [])) _
    rw [eq_rngD]
    exact hK
  · have c' : emptyB hs = false := by simpa using c
    rw [bnd2 hd nz c']
    rw [c', Bool.false_or] at h
    refine guard_st (S (some (infF g.p g.q hs, supF g.p g.q hs))) (fun K hK => ⟨Nat.zero_le _, sh_rngD, sh_rngD (o := none), ?_⟩) ?_
    · show K (eqD (rngD (some (infF g.p g.q hs, supF g.p g.q hs))) (.tup [])) _
      rw [eq_rngD]
      exact hK
    have sz := sup_zz (n := 30) y1 y2 hz
    cases hs' : supF g.p g.q hs with
    | none =>
      rw [hs'] at h
      exact tk h
    | some b =>
      rw [hs'] at h
      have bz := sz b hs'
      refine ⟨lineN rfl, ?_⟩
      show sp__law_less [.d (.tup [.int g.r, .int 1]), .d (fr b)] _ _
      rw [← fr_i]
      refine less_ok (x := (g.r : Rat)) (y := b) (zm (by omega)) (tk ?_)
      have e : (!decide ((g.r : Rat) < b)) = decide (b ≤ (g.r : Rat)) := by
        rw [← decide_not]
        exact decide_eq_decide.mpr Rat.not_lt
      show Q (.d (.bl (!decide ((g.r : Rat) < b)))) st
      rw [e]
      exact h
end
end PG

set_option maxRecDepth 100000
set_option maxHeartbeats 4000000

namespace PG
open PySem PySem.Spec PyProof.Rows L2 RT
end PG

set_option maxRecDepth 100000
set_option maxHeartbeats 4000000
namespace PG
open PySem PySem.Spec PyProof.Rows L2 RT
section
variable {st : List Cell} {Q : Vl → List Cell → Prop}
end
end PG

set_option maxRecDepth 100000
set_option maxHeartbeats 4000000

namespace PG
open PySem PySem.Spec PyProof.Rows L2 RT
theorem castM2 {a b : Int} : ((a * b : Int) : Rat) = (a : Rat) * (b : Rat) := Rat.intCast_mul a b
section
variable {st : List Cell} {Q : Vl → List Cell → Prop}
end

end PG

set_option maxRecDepth 100000
set_option maxHeartbeats 4000000

namespace PG
open PySem PySem.Spec PyProof.Rows L2 RT
end PG

set_option maxRecDepth 100000
set_option maxHeartbeats 4000000

namespace PG
open PySem PySem.Spec PyProof.Rows L2 RT
section
variable {st : List Cell} {Q : Vl → List Cell → Prop} {hs : List Hp3} {a : Hp3} {n : Nat}
end
end PG

set_option maxRecDepth 100000
set_option maxHeartbeats 4000000
namespace PG
open PySem PySem.Spec PyProof.Rows L2 RT
section
variable {st : List Cell} {Q : Vl → List Cell → Prop} {hs : List Hp3} {n : Nat} {g : Hp3}
end
end PG

set_option maxRecDepth 100000
set_option maxHeartbeats 4000000
namespace PG
open PySem PySem.Spec PyProof.Rows L2 RT
section
variable {st : List Cell} {Q : Vl → List Cell → Prop} {hs : List Hp3} {n : Nat} {g : Hp3}
end
end PG

set_option maxRecDepth 100000
set_option maxHeartbeats 4000000

namespace PG
open PySem PySem.Spec PyProof.Rows L2 RT
section
variable {st : List Cell} {Q : Vl → List Cell → Prop} {hs : List Hp3} {a g k : Hp3} {n : Nat}
end
end PG

set_option maxRecDepth 100000
set_option maxHeartbeats 4000000

namespace PG
open PySem PySem.Spec PyProof.Rows L2 RT
section
variable {st : List Cell} {Q : Vl → List Cell → Prop} {hs : List Hp3} {a : Hp3}
end

end PG

set_option maxRecDepth 100000
set_option maxHeartbeats 4000000

namespace PG
open PySem PySem.Spec PyProof.Rows L2 RT
def ElW : El → Prop
  | .gap g => In 12 12 g
  | e => ElIn e
theorem ElIn.w {e : El} (h : ElIn e) : ElW e := by
  cases e with
  | gap g => exact in_le (by decide) (Pn.in_ h)
  | lens p c => exact h
  | prism d => exact h
  | afocal m => exact h
  | stop lo hi => exact h
theorem ElW.z {e : El} (h : ElW e) : ElZ 12 e := by
  cases e with
  | gap g =>
    have := in_zb (b := 8) (by decide) h (by decide) (by decide) (by decide)
    show zb g ≤ 12
    omega
  | lens p c => exact ⟨Nat.le_trans (ElIn.z (e := .lens p c) h).1 (by decide), Nat.le_trans (ElIn.z (e := .lens p c) h).2 (by decide)⟩
  | prism d => exact Nat.le_trans (ElIn.z (e := .prism d) h) (by decide)
  | afocal m => exact ⟨Nat.le_trans (ElIn.z (e := .afocal m) h).1 (by decide), (ElIn.z (e := .afocal m) h).2⟩
  | stop lo hi => exact ⟨fun q e => Nat.le_trans ((ElIn.z (e := .stop lo hi) h).1 q e) (by decide), fun q e => Nat.le_trans ((ElIn.z (e := .stop lo hi) h).2 q e) (by decide)⟩
theorem ElZ.ok {n : Nat} {e : El} (h : ElZ n e) : ElOk e := by
  cases e with
  | afocal m => exact h.2
  | gap g => trivial
  | lens p c => trivial
  | prism d => trivial
  | stop lo hi => trivial
theorem ElZ.le {n k : Nat} {e : El} (h : ElZ n e) (hk : n ≤ k) : ElZ k e := by
  cases e with
  | afocal m => exact ⟨Nat.le_trans h.1 hk, h.2⟩
  | gap g => exact Nat.le_trans h hk
  | lens p c => exact ⟨Nat.le_trans h.1 hk, Nat.le_trans h.2 hk⟩
  | prism d => exact Nat.le_trans h hk
  | stop lo hi => exact ⟨fun q e => Nat.le_trans (h.1 q e) hk, fun q e => Nat.le_trans (h.2 q e) hk⟩
theorem ElZ.ez {n : Nat} {e : El} (h : ElZ n e) : Ez n e := by
  cases e with
  | afocal m => exact h
  | gap g => exact h
  | lens p c => exact h
  | prism d => exact h
  | stop lo hi => trivial
theorem rbw_behind {j : Nat} {e : El} {r : Ray} (he : ElW e) (hr : Rb j r) : Rb (j + 1) (behind e r) := by
  cases e with
  | gap g =>
    have p13 : 1 ≤ 13 ^ j := Nat.pow_pos (by decide)
    have e13 : 13 ^ (j + 1) = 13 * 13 ^ j := by rw [Nat.pow_succ, Nat.mul_comm]
    have d1 : ∃ k, 0 < k ∧ 12 * 60 ^ (j + 1) = (12 * 60 ^ j) * k := ⟨60, by decide, by rw [Nat.pow_succ]; omega⟩
    have d12 : ∃ k, 0 < k ∧ 12 * 60 ^ (j + 1) = (12 * (12 * 60 ^ j)) * k := ⟨5, by decide, by rw [Nat.pow_succ]; omega⟩
    have u12 : ∀ {B : Nat} {q : Rat}, In (12 * 60 ^ j) B q → In (12 * (12 * 60 ^ j)) B q := fun h => by
      rw [Nat.mul_comm]
      exact in_up (by decide) h
    exact ⟨in_st (j := j) (in_add (u12 hr.1) (in_mul (show In 12 12 g from he) hr.2)) d12 (by omega), in_st (j := j) hr.2 d1 (by omega)⟩
  | lens p c => exact rb_behind (e := .lens p c) he hr
  | prism d => exact rb_behind (e := .prism d) he hr
  | afocal m => exact rb_behind (e := .afocal m) he hr
  | stop lo hi => exact rb_behind (e := .stop lo hi) he hr
theorem lin_w {e : El} (h : ElW e) : ElW (lin e) := by
  cases e with
  | lens p c => exact ⟨h.1, pn_zero⟩
  | prism d => exact pn_zero
  | gap g => exact h
  | afocal m => exact h
  | stop lo hi => exact h
theorem mrbw_comp {j : Nat} {m : Mp} {e : El} (he : ElW e) (h : MRb j m) : MRb (j + 1) (comp m (elM e)) := by
  obtain ⟨h1, h2, h3⟩ := h
  have a1 := rbw_behind (lin_w he) h1
  have a2 := rbw_behind (lin_w he) h2
  have a3 := rbw_behind he h3
  have hd : ∀ m x : Rat, 1 / m * x = x * m⁻¹ := fun m x => by rw [Rat.div_def]; grind
  refine ⟨?_, ?_, ?_⟩
  · have e1 : ((comp m (elM e)).a, (comp m (elM e)).c) = behind (lin e) (m.a, m.c) := by
      cases e <;> (refine Prod.ext ?_ ?_ <;> simp only [comp, elM, lin, behind, idM, hd] <;> grind)
    rw [e1]
    exact a1
  · have e1 : ((comp m (elM e)).b, (comp m (elM e)).d) = behind (lin e) (m.b, m.d) := by
      cases e <;> (refine Prod.ext ?_ ?_ <;> simp only [comp, elM, lin, behind, idM, hd] <;> grind)
    rw [e1]
    exact a2
  · have e1 : ((comp m (elM e)).e, (comp m (elM e)).f) = behind e (m.e, m.f) := by
      cases e <;> (refine Prod.ext ?_ ?_ <;> simp only [comp, elM, lin, behind, idM, hd] <;> grind)
    rw [e1]
    exact a3
theorem mrbw_fold : ∀ {es : List El} {m : Mp} {j : Nat}, (∀ e ∈ es, ElW e) → MRb j m → MRb (j + es.length) (es.foldl (fun m e => comp m (elM e)) m)
  | [], m, j, _, h => h
  | e :: es, m, j, he, h => by
    rw [List.foldl_cons, List.length_cons, show j + (es.length + 1) = (j + 1) + es.length by omega]
    exact mrbw_fold (fun x hx => he x (List.mem_cons_of_mem _ hx)) (mrbw_comp (he e List.mem_cons_self) h)
theorem mrbw_transfer {es : List El} (h : ∀ e ∈ es, ElW e) : MRb es.length (transfer es) := by
  have := mrbw_fold h mrb_id
  rw [Nat.zero_add] at this
  exact this

structure Tz (N : Nat) (es : List El) : Prop where
  el : ∀ e ∈ es, ElZ N e
  pre : ∀ k, MZ N (transfer (es.take k))
theorem Tz.ok {N : Nat} {es : List El} (T : Tz N es) : ∀ e ∈ es, ElOk e := fun e he => (T.el e he).ok
theorem Tz.le {N K : Nat} {es : List El} (T : Tz N es) (h : N ≤ K) : Tz K es := ⟨fun e he => (T.el e he).le h, fun k => (T.pre k).le h⟩
theorem Tz.all {N : Nat} {es : List El} (T : Tz N es) : MZ N (transfer es) := by
  have := T.pre es.length
  rw [List.take_length] at this
  exact this
theorem Tz.pref {N : Nat} {es done rest : List El} (T : Tz N es) (e : es = done ++ rest) : MZ N (transfer done) := by
  have := T.pre done.length
  rw [e, List.take_left] at this
  exact this
theorem Tz.tk {N : Nat} {es : List El} (T : Tz N es) (j : Nat) : Tz N (es.take j) := ⟨fun e he => T.el e (List.mem_of_mem_take he), fun k => by rw [List.take_take]; exact T.pre _⟩
theorem Tz.dt {N : Nat} {es done rest : List El} (T : Tz N es) (e : es = done ++ rest) : det (transfer done) = 1 := det_transfer fun x hx => T.ok x (by rw [e]; exact List.mem_append_left _ hx)
theorem tz_w {es : List El} {j : Nat} (h : ∀ e ∈ es, ElW e) (hl : es.length ≤ j) : Tz (12 + 10 * j) es := by
  refine ⟨fun e he => (h e he).z.le (by omega), fun k => ?_⟩
  refine (mrbw_transfer (es := es.take k) fun e he => h e (List.mem_of_mem_take he)).z.le ?_
  rw [List.length_take]
  omega
theorem tz_in {es : List El} {j : Nat} (h : ∀ e ∈ es, ElIn e) (hl : es.length ≤ j) : Tz (12 + 10 * j) es := tz_w (fun e he => (h e he).w) hl
theorem app_z {N n : Nat} {m : Mp} {r : Ray} (hm : MZ N m) (h1 : zb r.1 ≤ n) (h2 : zb r.2 ≤ n) : zb (appM m r).1 ≤ 3 * N + 2 * n ∧ zb (appM m r).2 ≤ 3 * N + 2 * n := by
  obtain ⟨⟨a, b, c⟩, d, e, f⟩ := hm
  have x1 := zb_mul m.a r.1
  have x2 := zb_mul m.b r.2
  have x3 := zb_add (m.a * r.1) (m.b * r.2)
  have x4 := zb_add (m.a * r.1 + m.b * r.2) m.e
  have y1 := zb_mul m.c r.1
  have y2 := zb_mul m.d r.2
  have y3 := zb_add (m.c * r.1) (m.d * r.2)
  have y4 := zb_add (m.c * r.1 + m.d * r.2) m.f
  exact ⟨by show zb (m.a * r.1 + m.b * r.2 + m.e) ≤ _; omega, by show zb (m.c * r.1 + m.d * r.2 + m.f) ≤ _; omega⟩
theorem elM_zz {n : Nat} {e : El} (h : ElZ n e) : MZ (2 * n + 4) (elM e) := by
  have z0 : zb (0 : Rat) = 2 := zb0
  have z1 : zb (1 : Rat) = 2 := by decide +kernel
  cases e with
  | gap g =>
    have h : zb g ≤ n := h
    exact ⟨⟨by show zb (1 : Rat) ≤ _; omega, by show zb g ≤ _; omega, by show zb (0 : Rat) ≤ _; omega⟩, by show zb (1 : Rat) ≤ _; omega, by show zb (0 : Rat) ≤ _; omega, by show zb (0 : Rat) ≤ _; omega⟩
  | lens p c =>
    obtain ⟨h1, h2⟩ := h
    have a := zb_mul p c
    have b := zb_neg p
    exact ⟨⟨by show zb (1 : Rat) ≤ _; omega, by show zb (0 : Rat) ≤ _; omega, by show zb (-p) ≤ _; omega⟩, by show zb (1 : Rat) ≤ _; omega, by show zb (0 : Rat) ≤ _; omega, by show zb (p * c) ≤ _; omega⟩
  | prism d =>
    have h : zb d ≤ n := h
    exact ⟨⟨by show zb (1 : Rat) ≤ _; omega, by show zb (0 : Rat) ≤ _; omega, by show zb (0 : Rat) ≤ _; omega⟩, by show zb (1 : Rat) ≤ _; omega, by show zb (0 : Rat) ≤ _; omega, by show zb d ≤ _; omega⟩
  | afocal m =>
    obtain ⟨h1, h2⟩ := h
    have a := zb_div 1 m
    exact ⟨⟨by show zb m ≤ _; omega, by show zb (0 : Rat) ≤ _; omega, by show zb (0 : Rat) ≤ _; omega⟩, by show zb (1 / m) ≤ _; omega, by show zb (0 : Rat) ≤ _; omega, by show zb (0 : Rat) ≤ _; omega⟩
  | stop lo hi => exact ⟨⟨by show zb (1 : Rat) ≤ _; omega, by show zb (0 : Rat) ≤ _; omega, by show zb (0 : Rat) ≤ _; omega⟩, by show zb (1 : Rat) ≤ _; omega, by show zb (0 : Rat) ≤ _; omega, by show zb (0 : Rat) ≤ _; omega⟩
section
variable {st : List Cell} {Q : Vl → List Cell → Prop}

theorem transfer_t {N : Nat} {es : List El} (T : Tz N es) (hN : N ≤ 100000) (h : Q (.d (mpD (transfer es))) st) : sp_ray_transfer [.d (.lst (es.map elD))] st Q := by
  unfold sp_ray_transfer
  refine ⟨rfl, ?_⟩
  refine each_inv (lk := none) elD (fun r m => ∃ done z, es = done ++ r ∧ m = ⟨[some (.d (.lst (es.map elD))), some (.d (mpD (transfer done))), z], st⟩) (fun _ _ _ => trivial) ?_ ?_ es _ ⟨[], none, rfl, rfl⟩
  · rintro x r _ K hK ⟨done, z, e1, rfl⟩
    have hm : x ∈ es := by
      rw [e1]
      exact List.mem_append_right _ List.mem_cons_self
    refine elmap_ok (n := N) (T.el x hm) (by omega) ?_
    refine compose_ok (n := 2 * N + 4) ((T.pref e1).le (by omega)) (elM_zz (T.el x hm)) (by omega) ?_
    refine hK _ ⟨done ++ [x], some (.d (elD x)), by rw [e1, List.append_assoc]; rfl, ?_⟩
    rw [transfer_append, transfer_one]
    rfl
  · rintro _ ⟨done, z, e1, rfl⟩
    rw [List.append_nil] at e1
    rw [← e1]
    exact PG.tk h
theorem hplanes_t {N : Nat} {es : List El} (T : Tz N es) (hN : N ≤ 100000) (hl : es.length ≤ 1000) (h : Q (.d (.lst ((planesOf 0 idM es).map ehD))) st) : sp_half_planes_of [.d (.lst (es.map elD))] st Q := by
  obtain ⟨res, hres⟩ : ∃ res, planesOf 0 idM es = res := ⟨_, rfl⟩
  rw [hres] at h
  unfold sp_half_planes_of
  refine ⟨rfl, lineN rfl, ?_⟩
  let S : List (Ed × Hp3) → Mp → Option Vl → Option Vl → M := fun acc m z3 z4 => ⟨[some (.d (.lst (es.map elD))), some (.d (.lst (acc.map ehD))), some (.d (mpD m)), z3, z4], st⟩
  refine enum_inv (fun k rest m => ∃ done acc z3 z4, es = done ++ rest ∧ k = done.length ∧ acc ++ planesOf done.length (transfer done) rest = res ∧ acc.length ≤ 2 * done.length ∧ m = S acc (transfer done) z3 z4) ?_ ?_ _ 0 _ ⟨[], [], none, none, rfl, rfl, hres, Nat.le_refl _, rfl⟩
  · rintro k e rest m K hK ⟨done, acc, z3, z4, e1, rfl, e3, hacc, rfl⟩
    have hj : done.length < es.length := by
      rw [e1, List.length_append, List.length_cons]
      omega
    have hm : e ∈ es := by
      rw [e1]
      exact List.mem_append_right _ List.mem_cons_self
    have hz2 := T.pref e1
    have dt := T.dt e1
    have el := edgesAt_len done.length e (transfer done)
    refine seq_to (S (acc ++ edgesAt done.length e (transfer done)) (transfer done) (some (.d (.int done.length))) (some (.d (elD e)))) (fun K2 hK2 => ?_) ?_
    · cases e with
      | gap g =>
        rw [show edgesAt done.length (.gap g) (transfer done) = [] from rfl, List.append_nil] at hK2
        exact ⟨s_gap, s_stop, str_ne ne_gs hK2⟩
      | lens g c =>
        rw [show edgesAt done.length (.lens g c) (transfer done) = [] from rfl, List.append_nil] at hK2
        exact ⟨s_lens, s_stop, str_ne ne_ls hK2⟩
      | prism g =>
        rw [show edgesAt done.length (.prism g) (transfer done) = [] from rfl, List.append_nil] at hK2
        exact ⟨s_prism, s_stop, str_ne ne_ps hK2⟩
      | afocal g =>
        rw [show edgesAt done.length (.afocal g) (transfer done) = [] from rfl, List.append_nil] at hK2
        exact ⟨s_afocal, s_stop, str_ne ne_as hK2⟩
      | stop lo hi =>
        refine ⟨s_stop, s_stop, str_eq ?_⟩
        have zz := T.el _ hm
        refine edges_ok (n := N) (nz_of_det dt) hz2 zz.1 zz.2 (by omega) ?_
        refine ⟨?_, ?_⟩
        · rw [List.length_map, List.length_map]
          refine Nat.le_of_lt (small_lt ?_)
          have el' : (lowE done.length lo (transfer done) ++ uppE done.length hi (transfer done)).length ≤ 2 := el
          omega
        rw [← List.map_append]
        exact hK2
    refine elmap_ok (n := N) (T.el e hm) (by omega) ?_
    refine compose_ok (n := 2 * N + 4) (hz2.le (by omega)) (elM_zz (T.el e hm)) (by omega) ?_
    refine hK _ ⟨done ++ [e], acc ++ edgesAt done.length e (transfer done), some (.d (.int done.length)), some (.d (elD e)), ?_, ?_, ?_, ?_, ?_⟩
    · rw [e1, List.append_assoc]
      rfl
    · rw [List.length_append, List.length_singleton]
    · rw [← e3, List.length_append, List.length_singleton, transfer_append, transfer_one, List.append_assoc]
      rfl
    · rw [List.length_append, List.length_append, List.length_singleton]
      omega
    · rw [transfer_append, transfer_one]
      rfl
  · rintro k m ⟨done, acc, z3, z4, e1, rfl, e3, hacc, rfl⟩
    rw [show planesOf done.length (transfer done) [] = [] from rfl, List.append_nil] at e3
    rw [← e3] at h
    exact PG.tk h
end
end PG

set_option maxRecDepth 100000
set_option maxHeartbeats 4000000

namespace PG
open PySem PySem.Spec PyProof.Rows L2 RT
section
variable {st : List Cell} {Q : Vl → List Cell → Prop}
theorem lout_t {N n : Nat} {es : List El} {r0 : Ray} (T : Tz N es) (h1 : zb r0.1 ≤ n) (h2 : zb r0.2 ≤ n) (hn : 3 * N + 2 * n ≤ 10000000) (h : Q (.d (rayD (appM (transfer es) r0))) st) : sp__law_out [.d (.lst (es.map elD)), .d (rayD r0)] st Q := by
  unfold sp__law_out
  refine ⟨rfl, ?_⟩
  let S : Ray → Option Vl → M := fun r z => ⟨[some (.d (.lst (es.map elD))), some (.d (rayD r)), z], st⟩
  refine seq_mid (fun m => ∃ z, m = S (appM (transfer es) r0) z) (fun K hK => ?_) ?_
  · refine each_inv (lk := none) elD (fun q m => ∃ (done : List El) (z : Option Vl), es = done ++ q ∧ m = S (appM (transfer done) r0) z) (fun _ _ _ => trivial) ?_ ?_ es _ ⟨[], none, rfl, by rw [show appM (transfer []) r0 = r0 from app_id r0]; rfl⟩
    · rintro e q _ K2 hK2 ⟨done, z, e1, rfl⟩
      have hm : e ∈ es := by
        rw [e1]
        exact List.mem_append_right _ List.mem_cons_self
      obtain ⟨y1, y2⟩ := app_z (T.pref e1) h1 h2
      refine lgo2_ok (n := N) (k := 3 * N + 2 * n) (T.el e hm).ez (by omega) y1 y2 hn ?_
      refine hK2 _ ⟨done ++ [e], some (.d (elD e)), by rw [e1, List.append_assoc]; rfl, ?_⟩
      rw [transfer_append, transfer_one, app_comp, app_el]
      rfl
    · rintro _ ⟨done, z, e1, rfl⟩
      rw [List.append_nil] at e1
      exact hK _ ⟨z, by rw [e1]⟩
  rintro _ ⟨z, rfl⟩
  exact PG.tk h
theorem lmap_t {N : Nat} {es : List El} (T : Tz N es) (hN : N ≤ 1000000) (h : Q (.d (mpD (transfer es))) st) : sp__law_map [.d (.lst (es.map elD))] st Q := by
  unfold sp__law_map
  refine ⟨rfl, ?_⟩
  let S : Option Vl → Option Vl → Option Vl → Option Vl → Option Vl → M := fun z1 z2 z3 z4 z5 => ⟨[some (.d (.lst (es.map elD))), z1, z2, z3, z4, z5], st⟩
  have mz := T.all
  have go : ∀ (a b : Rat), (a = 0 ∨ a = 1) → (b = 0 ∨ b = 1) → (zb (appM (transfer es) (a, b)).1 ≤ 3 * N + 4 ∧ zb (appM (transfer es) (a, b)).2 ≤ 3 * N + 4) ∧ ∀ {st : List Cell} {Q : Vl → List Cell → Prop}, Q (.d (rayD (appM (transfer es) (a, b)))) st → sp__law_out [.d (.lst (es.map elD)), .d (rayD (a, b))] st Q := fun a b ha hb => by
    have z01 : ∀ x : Rat, (x = 0 ∨ x = 1) → zb x ≤ 2 := fun x hx => by
      rcases hx with rfl | rfl
      · have : zb 0 = 2 := zb0
        omega
      · have : zb 1 = 2 := by decide +kernel
        omega
    exact ⟨app_z (n := 2) mz (z01 a ha) (z01 b hb), fun hq => lout_t T (z01 a ha) (z01 b hb) (by omega) hq⟩
  obtain ⟨m, em⟩ : ∃ m, transfer es = m := ⟨_, rfl⟩
  rw [em] at h go
  obtain ⟨⟨a1, a2⟩, g0⟩ := go 0 0 (.inl rfl) (.inl rfl)
  obtain ⟨⟨b1, b2⟩, g1⟩ := go 1 0 (.inr rfl) (.inl rfl)
  obtain ⟨⟨c1, c2⟩, g2⟩ := go 0 1 (.inl rfl) (.inr rfl)
  refine seq_to (S (some (.d (rayD (appM m (0, 0))))) none none none none) (fun K hK => ⟨lineN rfl, lineN rfl, lineN rfl, g0 hK⟩) ?_
  refine seq_to (S (some (.d (rayD (appM m (0, 0))))) (some (.d (rayD (appM m (1, 0))))) none none none) (fun K hK => ⟨lineN rfl, lineN rfl, lineN rfl, g1 hK⟩) ?_
  refine seq_to (S (some (.d (rayD (appM m (0, 0))))) (some (.d (rayD (appM m (1, 0))))) (some (.d (rayD (appM m (0, 1))))) none none) (fun K hK => ⟨lineN rfl, lineN rfl, lineN rfl, g2 hK⟩) ?_
  have ea : (appM m (1, 0)).1 - (appM m (0, 0)).1 = m.a := by unfold appM; grind
  have eb : (appM m (0, 1)).1 - (appM m (0, 0)).1 = m.b := by unfold appM; grind
  have ec : (appM m (1, 0)).2 - (appM m (0, 0)).2 = m.c := by unfold appM; grind
  have ed : (appM m (0, 1)).2 - (appM m (0, 0)).2 = m.d := by unfold appM; grind
  have e0 : appM m (0, 0) = (m.e, m.f) := by
    unfold appM
    exact Prod.ext (by grind) (by grind)
  refine seq_to (S (some (.d (rayD (appM m (0, 0))))) (some (.d (rayD (appM m (1, 0))))) (some (.d (rayD (appM m (0, 1))))) (some (.d (.tup [fr m.a, fr m.b]))) none) (fun K hK => ?_) ?_
  · refine lsub2_ok (x := (appM m (1, 0)).1) (y := (appM m (0, 0)).1) (zm (by omega)) ?_
    refine lsub2_ok (x := (appM m (0, 1)).1) (y := (appM m (0, 0)).1) (zm (by omega)) ?_
    rw [ea, eb]
    exact ⟨lineN rfl, hK⟩
  refine seq_to (S (some (.d (rayD (appM m (0, 0))))) (some (.d (rayD (appM m (1, 0))))) (some (.d (rayD (appM m (0, 1))))) (some (.d (.tup [fr m.a, fr m.b]))) (some (.d (.tup [fr m.c, fr m.d])))) (fun K hK => ?_) ?_
  · refine lsub2_ok (x := (appM m (1, 0)).2) (y := (appM m (0, 0)).2) (zm (by omega)) ?_
    refine lsub2_ok (x := (appM m (0, 1)).2) (y := (appM m (0, 0)).2) (zm (by omega)) ?_
    rw [ec, ed]
    exact ⟨lineN rfl, hK⟩
  rw [e0]
  exact ⟨lineN rfl, lineN rfl, PG.tk h⟩
theorem ledges_t {N : Nat} {es : List El} (hT : Tz N es) (hN : N ≤ 100000) (hl : es.length ≤ 1000) (h : Q (.d (.lst ((planesOf 0 idM es).map ehD))) st) : sp__law_edges_2 [.d (.lst (es.map elD))] st Q := by
  unfold sp__law_edges_2
  refine ⟨rfl, ?_⟩
  let S : List (Ed × Hp3) → Option Vl → Option Vl → Option Vl → Option Vl → Option Vl → Option Vl → Option Vl → Option Vl → M := fun acc z2 z3 a b c d e f => ⟨[some (.d (.lst (es.map elD))), some (.c st.length), z2, z3, a, b, c, d, e, f], st ++ [Cell.lst (acc.map ehD)]⟩
  refine seq_to (S [] none none none none none none none none) (fun K hK => ⟨lineN rfl, hK⟩) ?_
  refine seq_mid (fun m => ∃ z2 z3 a b c d e f, m = S (planesOf 0 idM es) z2 z3 a b c d e f) (fun K0 hK0 => ?_) ?_
  · refine ⟨⟨by rw [List.length_map]; omega, by rw [List.length_map]; omega⟩, ?_⟩
    rw [List.length_map]
    refine range_inv (fun n lo m => ∃ done rest z2 z3 a b c d e f, es = done ++ rest ∧ n = rest.length ∧ lo = (done.length : Int) ∧ m = S (planesOf 0 idM done) z2 z3 a b c d e f) ?_ ?_ _ 0 _ ⟨[], es, none, none, none, none, none, none, none, none, rfl, by simp, rfl, rfl⟩
    · rintro n lo _ K2 hK2 ⟨done, rest, z2, z3, a, b, c, d, e, f, e1, hn, rfl, rfl⟩
      cases rest with
      | nil => simp at hn
      | cons el rest =>
        have hm : el ∈ es := by
          rw [e1]
          exact List.mem_append_right _ List.mem_cons_self
        have hat : atI (es.map elD) (done.length : Int) = some (elD el) := atI_map (f := elD) (by rw [e1]; simp)
        have hlen : es.length = done.length + (el :: rest).length := by rw [e1, List.length_append]
        rw [List.length_cons] at hlen
        have hpl := planesOf_len 0 idM done
        have dt : det (transfer done) = 1 := hT.dt e1
        have mz : MZ N (transfer done) := hT.pref e1
        have fin : ∀ {acc} {z2 z3 a b c d e f}, acc = planesOf 0 idM (done ++ [el]) → K2 (S acc z2 z3 a b c d e f) := fun {acc z2 z3 a b c d e f} hc => by
          refine hK2 _ ⟨done ++ [el], rest, z2, z3, a, b, c, d, e, f, by rw [e1, List.append_assoc]; rfl, by simpa using hn, by rw [List.length_append, List.length_singleton]; push_cast; rfl, by rw [hc]⟩
        rw [planesOf_snoc, Nat.zero_add, comp_id] at fin
        have no : edgesAt done.length el (transfer done) = [] → K2 (S (planesOf 0 idM done) (some (.d (.int done.length))) (some (.d (elD el))) a b c d e f) := fun h => fin (by rw [h, List.append_nil])
        refine seq_to (S (planesOf 0 idM done) (some (.d (.int done.length))) (some (.d (elD el))) a b c d e f) (fun K hK => rIx_mk hat hK) ?_
        cases el with
        | gap g => exact ⟨s_gap, s_stop, str_ne ne_gs (no rfl)⟩
        | lens g c => exact ⟨s_lens, s_stop, str_ne ne_ls (no rfl)⟩
        | prism g => exact ⟨s_prism, s_stop, str_ne ne_ps (no rfl)⟩
        | afocal g => exact ⟨s_afocal, s_stop, str_ne ne_as (no rfl)⟩
        | stop lo hi =>
          have zz := hT.el _ hm
          refine ⟨s_stop, s_stop, str_eq ?_⟩
          obtain ⟨m, em⟩ : ∃ m, transfer done = m := ⟨_, rfl⟩
          rw [em] at fin dt mz
          have h0 := nz_of_det dt
          obtain ⟨⟨za, zb', zc⟩, zd, ze, zf⟩ := mz
          let T : List (Ed × Hp3) → M := fun acc => S acc (some (.d (.int done.length))) (some (.d (elD (.stop lo hi)))) (some (.d (fr m.a))) (some (.d (fr m.b))) (some (.d (fr m.c))) (some (.d (fr m.d))) (some (.d (fr m.e))) (some (.d (fr m.f)))
          refine seq_to (T (planesOf 0 idM done)) (fun K hK => ?_) ?_
          · show sp__law_map [.d (.lst (RT.cutD (es.map elD) none (some (done.length : Int))))] _ _
            rw [cut_take _ _ (by rw [List.length_map]; omega), ← List.map_take, e1, List.take_left]
            have Td : Tz N done := by
              have := hT.tk done.length
              rw [e1, List.take_left] at this
              exact this
            refine lmap_t Td (by omega) ?_
            rw [em]
            exact ⟨rfl, hK⟩
          have fin' := fin (acc := planesOf 0 idM done ++ edgesAt done.length (.stop lo hi) m) (z2 := some (.d (.int done.length))) (z3 := some (.d (elD (.stop lo hi)))) (a := some (.d (fr m.a))) (b := some (.d (fr m.b))) (c := some (.d (fr m.c))) (d := some (.d (fr m.d))) (e := some (.d (fr m.e))) (f := some (.d (fr m.f))) rfl
          refine seq_to (T (planesOf 0 idM done ++ lowE done.length lo m)) (fun K hK => ?_) ?_
          · cases lo with
            | none =>
              rw [show planesOf 0 idM done ++ lowE done.length none m = planesOf 0 idM done from List.append_nil _] at hK
              exact hK
            | some l =>
              have w := zb_sub m.e l
              have hl' := zz.1 l rfl
              refine ifs_t (T (planesOf 0 idM done)) (fun K2 h2 => h2) ?_
              refine append_st (k := st.length) (xs := (planesOf 0 idM done).map ehD) (ehD ((done.length, false), mkH (-m.a) (-m.b) (m.e - l))) ?_ ?_ (fun C hC => ?_) (small_lt (by rw [List.length_map]; omega)) ?_
              · rfl
              · exact getElem_last _ _
              · refine ⟨lineN rfl, ?_⟩
                refine lneg_ok ?_
                refine lneg_ok ?_
                refine lsub2_ok (x := m.e) (y := l) (zm (by omega)) ?_
                refine lplane9_ok (fun z => h0 ⟨by grind, by grind⟩) (by rw [zb_neg]; omega) (by rw [zb_neg]; omega) (by omega) ?_
                exact ⟨lineN rfl, hC⟩
              · dsimp only
                show K ⟨_, (st ++ [_]).set st.length _⟩
                rw [set_last]
                dsimp only [T, S] at hK
                rw [List.map_append] at hK
                exact hK
          have el2 : (lowE done.length lo m).length ≤ 1 := by cases lo <;> exact Nat.le_of_ble_eq_true rfl
          cases hi with
          | none =>
            rw [show edgesAt done.length (.stop lo none) m = lowE done.length lo m from List.append_nil _] at fin'
            exact fin'
          | some l =>
            have w := zb_sub l m.e
            have hl' := zz.2 l rfl
            refine ifs_t (T (planesOf 0 idM done ++ lowE done.length lo m)) (fun K2 h2 => h2) ?_
            refine append_st (k := st.length) (xs := (planesOf 0 idM done ++ lowE done.length lo m).map ehD) (ehD ((done.length, true), mkH m.a m.b (l - m.e))) ?_ ?_ (fun C hC => ?_) (small_lt (by rw [List.length_map, List.length_append]; omega)) ?_
            · rfl
            · exact getElem_last _ _
            · refine ⟨lineN rfl, ?_⟩
              refine lsub2_ok (x := l) (y := m.e) (zm (by omega)) ?_
              refine lplane9_ok h0 (by omega) (by omega) (by omega) ?_
              exact ⟨lineN rfl, hC⟩
            · dsimp only
              show K2 ⟨_, (st ++ [_]).set st.length _⟩
              rw [set_last]
              have e : edgesAt done.length (.stop lo (some l)) m = lowE done.length lo m ++ [((done.length, true), mkH m.a m.b (l - m.e))] := rfl
              rw [e, ← List.append_assoc] at fin'
              dsimp only [S] at fin'
              rw [List.map_append (l₁ := planesOf 0 idM done ++ lowE done.length lo m)] at fin'
              exact fin'
    · rintro lo m ⟨done, rest, z2, z3, a, b, c, d, e, f, e1, hn, rfl, rfl⟩
      have : rest = [] := List.length_eq_zero_iff.mp hn.symm
      subst this
      rw [List.append_nil] at e1
      exact hK0 _ ⟨_, _, _, _, _, _, _, _, by rw [e1]⟩
  rintro _ ⟨z2, z3, a, b, c, d, e, f, rfl⟩
  refine Eq.mp (if_neg (Nat.lt_irrefl _)).symm (onC_mk (getElem_last _ _) ?_)
  show Q _ ((st ++ [_]).take st.length)
  rw [List.take_left]
  exact h
theorem planesof_t {N : Nat} {es : List El} (T : Tz N es) (hN : N ≤ 100000) (hl : es.length ≤ 1000) (h : Q (.d (.lst (((planesOf 0 idM es).map (·.2)).map hpD))) st) : sp_planes_of [.d (.lst (es.map elD))] st Q := by
  unfold sp_planes_of
  refine ⟨rfl, ?_⟩
  have hpl := planesOf_len 0 idM es
  refine dlc_map ehD (fun x => hpD x.2) (xs := planesOf 0 idM es) (fun K2 h2 => hplanes_t T hN hl h2) (fun x _ C hC => ?_) (by omega) ?_
  · exact ⟨rfl, hC _⟩
  rw [List.map_map] at h
  exact PG.tk h
end
end PG

set_option maxRecDepth 100000
set_option maxHeartbeats 4000000

namespace PG
open PySem PySem.Spec PyProof.Rows L2 RT
section
variable {st : List Cell} {Q : Vl → List Cell → Prop}
end
end PG

set_option maxRecDepth 100000
set_option maxHeartbeats 4000000

namespace PG
open PySem PySem.Spec PyProof.Rows L2 RT
section
variable {st : List Cell} {Q : Vl → List Cell → Prop}
end
end PG

set_option maxRecDepth 100000
set_option maxHeartbeats 4000000

namespace PG
open PySem PySem.Spec PyProof.Rows L2 RT
abbrev CE := Ed × Rat × Mp
def clr (x : CE) (r : Ray) : Rat := if x.1.2 = true then x.2.1 - (appM x.2.2 r).1 else (appM x.2.2 r).1 - x.2.1
def cv (rays : List Ray) (x : CE) : Rat := (least (rays.map fun r => some (clr x r))).getD 0
structure CeIn (N : Nat) (es : List El) (x : CE) : Prop where
  lt : x.1.1 < es.length
  mp : x.2.2 = transfer (es.take x.1.1)
  mz : MZ N x.2.2
  hz : zb x.2.1 ≤ N

section
variable {st : List Cell} {Q : Vl → List Cell → Prop}
end
end PG

set_option maxRecDepth 100000
set_option maxHeartbeats 4000000

namespace PG
open PySem PySem.Spec PyProof.Rows L2 RT
theorem lg_le {n k : Nat} (h : n ≤ 2 ^ k) : n.log2 ≤ k := by
  by_cases h0 : n = 0
  · rw [h0]; exact Nat.zero_le _
  · have := (Nat.log2_lt h0 (k := k + 1)).mpr (by rw [Nat.pow_succ]; have := Nat.pow_pos (a := 2) (n := k) (by decide); omega)
    omega
theorem planes_z {es : List El} {j : Nat} (he : ∀ e ∈ es, ElW e) (hl : es.length ≤ j) : ∀ x ∈ planesOf 0 idM es, HZ (10 + 10 * j) x.2 := fun x hx => by
  obtain ⟨i, _, lo, hi', hs, hx⟩ := planes_mem es 0 idM x hx
  have hd : ∀ x ∈ es.take i, ElW x := fun x hx => he x (List.mem_of_mem_take hx)
  have hm := mrbw_transfer hd
  have hle : (es.take i).length ≤ j := by
    rw [List.length_take]
    omega
  have dt : det (transfer (es.take i)) = 1 := det_transfer fun x hx => (hd x hx).z.ok
  have nz := nz_of_det dt
  rw [comp_id] at hx
  have hst : ElIn (.stop lo hi') := he _ (List.mem_of_getElem? hs)
  generalize (es.take i).length = l at hm hle
  have up : ∀ {q : Rat}, In (12 * 60 ^ l) (6 * 13 ^ l) q → In (12 * 60 ^ j) (6 * 13 ^ j) q := fun {q} h => by
    have e : 12 * 60 ^ j = 12 * 60 ^ l * 60 ^ (j - l) := by rw [Nat.mul_assoc, ← Nat.pow_add, show l + (j - l) = j by omega]
    rw [e]
    exact in_le (Nat.mul_le_mul_left _ (Nat.pow_le_pow_right (by decide) hle)) (in_up (Nat.pow_pos (by decide)) h)
  have ia := up hm.1.1
  have ib := up hm.2.1.1
  have ie := up hm.2.2.1
  have st : ∀ {q : Rat}, In 12 12 q → In (12 * 60 ^ j) 12 q := fun h => in_up (Nat.pow_pos (by decide)) h
  have sh : ∀ {p q r : Rat}, ¬ (p = 0 ∧ q = 0) → In (12 * 60 ^ j) (18 * 13 ^ j) p → In (12 * 60 ^ j) (18 * 13 ^ j) q → In (12 * 60 ^ j) (18 * 13 ^ j) r → HZ (10 + 10 * j) (mkH p q r) := fun {p q r} h ⟨x, x1, x2⟩ ⟨y, y1, y2⟩ ⟨z, z1, z2⟩ => by
    have hD : (0 : Rat) < ((12 * 60 ^ j : Nat) : Rat) := Rat.natCast_pos.mpr (Nat.mul_pos (by decide) (Nat.pow_pos (by decide)))
    obtain ⟨a, b, c⟩ := mkH_le h hD x1 y1 z1
    have big : 18 * 13 ^ j * (12 * 60 ^ j) ≤ 2 ^ (8 + 10 * j) := by
      have e : 18 * 13 ^ j * (12 * 60 ^ j) = 216 * 780 ^ j := by
        rw [show (780 : Nat) = 13 * 60 from rfl, Nat.mul_pow, Nat.mul_mul_mul_comm]
      have p : 780 ^ j ≤ 2 ^ (10 * j) := by
        rw [Nat.pow_mul]
        exact Nat.pow_le_pow_left (by decide) j
      rw [e, Nat.pow_add]
      exact Nat.mul_le_mul (by decide) p
    have l1 := lg_le (k := 8 + 10 * j) (n := (mkH p q r).p.natAbs) (by omega)
    have l2 := lg_le (k := 8 + 10 * j) (n := (mkH p q r).q.natAbs) (by omega)
    have l3 := lg_le (k := 8 + 10 * j) (n := (mkH p q r).r.natAbs) (by omega)
    exact ⟨by omega, by omega, by omega⟩
  have p13 : 1 ≤ 13 ^ j := Nat.pow_pos (by decide)
  generalize transfer (es.take i) = t at *
  cases hu : x.1.2 with
  | true =>
    rw [hu, if_pos rfl] at hx
    obtain ⟨u, rfl, hx⟩ := hx
    rw [hx]
    exact sh nz (in_le (by omega) ia) (in_le (by omega) ib) (in_le (by omega) (in_sub (st (hst.2 u rfl)) ie))
  | false =>
    rw [hu, if_neg (by decide)] at hx
    obtain ⟨u, rfl, hx⟩ := hx
    rw [hx]
    exact sh (fun z => nz ⟨by grind, by grind⟩) (in_le (by omega) (in_neg ia)) (in_le (by omega) (in_neg ib)) (in_le (by omega) (in_sub ie (st (hst.1 u rfl))))
theorem planes_dir {es : List El} (he : ∀ e ∈ es, ElOk e) : ∀ x ∈ planesOf 0 idM es, Dir x.2 ∧ gcd3 x.2.p x.2.q x.2.r = 1 := fun x hx => by
  obtain ⟨i, _, lo, hi', hs, hx⟩ := planes_mem es 0 idM x hx
  have dt : det (transfer (es.take i)) = 1 := det_transfer fun x hx => he x (List.mem_of_mem_take hx)
  have nz := nz_of_det dt
  rw [comp_id] at hx
  generalize transfer (es.take i) = t at *
  cases hu : x.1.2 with
  | true =>
    rw [hu, if_pos rfl] at hx
    obtain ⟨u, _, hx⟩ := hx
    rw [hx]
    exact ⟨mkH_dir nz, mkH_prim nz⟩
  | false =>
    rw [hu, if_neg (by decide)] at hx
    obtain ⟨u, _, hx⟩ := hx
    rw [hx]
    have nz' : ¬ (-t.a = 0 ∧ -t.b = 0) := fun z => nz ⟨by grind, by grind⟩
    exact ⟨mkH_dir nz', mkH_prim nz'⟩
section
variable {ds : List Int} {i k : Nat} {st : List Cell} {Q : Vl → List Cell → Prop}
end
section
variable {st : List Cell} {Q : Vl → List Cell → Prop}
end
end PG

set_option maxRecDepth 100000
set_option maxHeartbeats 4000000

namespace PG
open PySem PySem.Spec PyProof.Rows L2 RT
theorem lg_hp {g : Hp3} (h : HZ 1900 g) : Lg 1 2000 (hpD g) := by
  obtain ⟨a, b, c⟩ := h
  exact (lg_tup (ds := [.int g.p, .int g.q, .int g.r]) (all_cons (lg_int (by omega)) (all_cons (lg_int (by omega)) (all_cons (lg_int (by omega)) all_nil)))).le (Nat.le_refl _) (Nat.le_of_ble_eq_true rfl)
theorem lg_hps {hs : List Hp3} (h : ∀ g ∈ hs, HZ 1900 g) (hl : hs.length ≤ 1000) : Lg 2 2010000 (.lst (hs.map hpD)) :=
  (lg_lst (all_map fun g hg => lg_hp (h g hg))).le (Nat.le_refl _) (by rw [List.length_map]; omega)
end PG

set_option maxRecDepth 100000
set_option maxHeartbeats 4000000

namespace PG
namespace B
open PySem PySem.Spec PyProof.Rows L2 RT
def Pg (g : Hp3) : Prop := Dir g ∧ gcd3 g.p g.q g.r = 1 ∧ HZ 1900 g
theorem Pg.z {g : Hp3} (h : Pg g) : HZ 1900 g := h.2.2
theorem Pg.ab {g : Hp3} (h : Pg g) : g.p.natAbs.log2 ≤ 2000 ∧ g.q.natAbs.log2 ≤ 2000 ∧ g.r.natAbs.log2 ≤ 2000 ∧ 0 < n1 g ∧ (n1 g).natAbs.log2 ≤ 2000 := by
  have := n1_pos h.1
  have := lgn1 h.z
  obtain ⟨_, _, a, b, c⟩ := h
  omega
section
variable {st : List Cell} {Q : Vl → List Cell → Prop} {g k : Hp3}
theorem limplied_ok {hs : List Hp3} {g : Hp3} (hp : ∀ g ∈ hs, Pg g) (hg : Pg g) (hl : hs.length ≤ 90) (h : Q (.d (.bl (impB hs g))) st) : sp__law_implied [.d (.lst (hs.map hpD)), .d (hpD g)] st Q := by
  have hd : ∀ g ∈ hs, Dir g := fun g hg => (hp g hg).1
  have hz : ∀ g ∈ hs, HZ 1900 g := fun g hg => (hp g hg).z
  obtain ⟨y1, y2, y3⟩ := hg.z.zb
  have nz := dirQ hg.1
  unfold sp__law_implied
  refine ⟨rfl, ?_⟩
  let S : Rng → M := fun o => ⟨[some (.d (.lst (hs.map hpD))), some (.d (hpD g)), some (.d (rngD o))], st⟩
  refine seq_to (S (boundsF g.p g.q hs)) (fun K hK => ?_) ?_
  · refine ⟨lineN rfl, lineN rfl, ?_⟩
    show sp__law_bounds_2 [.d (.lst (hs.map hpD)), .d (.tup [.int g.p, .int 1]), .d (.tup [.int g.q, .int 1])] _ _
    rw [← fr_i, ← fr_i]
    exact lbounds2_ok (p := (g.p : Rat)) (q := (g.q : Rat)) (n := 1900) nz y1 y2 hz (by decide) (by decide) (by omega) hK
  unfold impB at h
  by_cases c : emptyB hs = true
  · rw [fov_rng nz hd, if_pos c]
    rw [c, Bool.true_or] at h
    refine PG.ifs_t' (S none) (fun K hK => ⟨Nat.zero_le _, sh_rngD, sh_rngD (o := none), ?_⟩) (tk h)
    show K (eqD (rngD none) (.tup [])) _
    rw [eq_rngD]
    exact hK
  · have c' : emptyB hs = false := by simpa using c
    rw [bnd2 hd nz c']
    rw [c', Bool.false_or] at h
    refine guard_st (S (some (infF g.p g.q hs, supF g.p g.q hs))) (fun K hK => ⟨Nat.zero_le _, sh_rngD, sh_rngD (o := none), ?_⟩) ?_
    · show K (eqD (rngD (some (infF g.p g.q hs, supF g.p g.q hs))) (.tup [])) _
      rw [eq_rngD]
      exact hK
    have sz := sup_zz (n := 1900) y1 y2 hz
    cases hs' : supF g.p g.q hs with
    | none =>
      rw [hs'] at h
      exact tk h
    | some b =>
      rw [hs'] at h
      have bz := sz b hs'
      refine ⟨lineN rfl, ?_⟩
      show sp__law_less [.d (.tup [.int g.r, .int 1]), .d (fr b)] _ _
      rw [← fr_i]
      refine less_ok (x := (g.r : Rat)) (y := b) (zm (by omega)) (tk ?_)
      have e : (!decide ((g.r : Rat) < b)) = decide (b ≤ (g.r : Rat)) := by
        rw [← decide_not]
        exact decide_eq_decide.mpr Rat.not_lt
      show Q (.d (.bl (!decide ((g.r : Rat) < b)))) st
      rw [e]
      exact h
end
end B
end PG

set_option maxRecDepth 100000
set_option maxHeartbeats 4000000

namespace PG
namespace B
open PySem PySem.Spec PyProof.Rows L2 RT
theorem imp_iff {hs : List Hp3} {g : Hp3} (hd : ∀ k ∈ hs, Dir k) : impB hs g = true ↔ ∀ x, Rg hs x → valH g x ≤ (g.r : Rat) := by
  unfold impB
  cases ce : emptyB hs with
  | true =>
    rw [Bool.true_or]
    exact ⟨fun _ x hx => absurd ⟨x, hx⟩ ((emptyB_iff hd).mp ce), fun _ => rfl⟩
  | false =>
    obtain ⟨x0, hx0⟩ := not_empty hd ce
    have hs' := sup_is (p := (g.p : Rat)) (q := g.q) hd hx0
    rw [Bool.false_or]
    cases es : supF g.p g.q hs with
    | none =>
      rw [es] at hs'
      refine ⟨fun h => absurd h Bool.false_ne_true, fun h => ?_⟩
      obtain ⟨x, hx, hm⟩ := hs' ((g.r : Rat) + 1)
      have a := h x hx
      have b : (g.r : Rat) + 1 ≤ valH g x := hm
      grind
    | some s =>
      rw [es] at hs'
      obtain ⟨h1, x, hx, e⟩ := hs'
      show decide (s ≤ (g.r : Rat)) = true ↔ _
      rw [decide_eq_true_iff]
      constructor
      · intro h y hy
        have a := h1 y hy
        have b : valH g y ≤ s := a
        grind
      · intro h
        have a := h x hx
        have b : valH g x = s := e
        grind
end B
end PG

set_option maxRecDepth 100000
set_option maxHeartbeats 4000000

namespace PG
namespace B
open PySem PySem.Spec PyProof.Rows L2 RT
theorem HZ.le {n m : Nat} {g : Hp3} (h : HZ n g) (hm : n ≤ m) : HZ m g := ⟨by have := h.1; omega, by have := h.2.1; omega, by have := h.2.2; omega⟩

end B
end PG

set_option maxRecDepth 100000
set_option maxHeartbeats 4000000

namespace PG
namespace B
open PySem PySem.Spec PyProof.Rows L2 RT

def agree (m n : Mp) (x : Ray) : Prop := appM m x = appM n x

def Alike (a : List Hp3) (m : Mp) (b : List Hp3) (n : Mp) : Prop := (∀ x, Rg a x ↔ Rg b x) ∧ ∀ x, Rg a x → agree m n x
theorem Alike.symm {a b : List Hp3} {m n : Mp} (h : Alike a m b n) : Alike b n a m := ⟨fun x => (h.1 x).symm, fun x hx => (h.2 x ((h.1 x).mpr hx)).symm⟩

end B
end PG

set_option maxRecDepth 100000
set_option maxHeartbeats 4000000

namespace PG
namespace B
open PySem PySem.Spec PyProof.Rows L2 RT
section
variable {st : List Cell} {Q : Vl → List Cell → Prop}
def plT (es : List El) : List Hp3 := (planesOf 0 idM es).map (·.2)
structure Tp (N n : Nat) (es : List El) : Prop where
  tz : Tz N es
  len : es.length ≤ 20
  hz : ∀ g ∈ plT es, HZ n g
  ln : (plT es).length ≤ 40
theorem Tp.pg {N n : Nat} {es : List El} (T : Tp N n es) (hn : n ≤ 1900) : ∀ g ∈ plT es, Pg g := fun g hg => by
  obtain ⟨x, hx, rfl⟩ := List.mem_map.mp hg
  have := planes_dir T.tz.ok x hx
  exact ⟨this.1, this.2, HZ.le (T.hz _ hg) hn⟩

end
end B
end PG

set_option maxRecDepth 100000
set_option maxHeartbeats 4000000

namespace PG
namespace B
open PySem PySem.Spec PyProof.Rows L2 RT
section
variable {st : List Cell} {Q : Vl → List Cell → Prop}
end
end B
end PG

set_option maxRecDepth 100000
set_option maxHeartbeats 4000000

namespace PG
namespace B
open PySem PySem.Spec PyProof.Rows L2 RT
section
variable {ds : List Int} {i k : Nat} {st : List Cell} {Q : Vl → List Cell → Prop}
end
end B
end PG

set_option maxRecDepth 100000
set_option maxHeartbeats 4000000

namespace PG
namespace B
open PySem PySem.Spec PyProof.Rows L2 RT
theorem lg_bl (b : Bool) : Lg 0 600 (.bl b) := by
  have t : (toPy (.bl true)).shown.length ≤ 600 := by decide +kernel
  have f : (toPy (.bl false)).shown.length ≤ 600 := by decide +kernel
  cases b
  · exact ⟨rfl, Nat.le_refl _, f⟩
  · exact ⟨rfl, Nat.le_refl _, t⟩
theorem shows_bl (b : Bool) : shows (.bl b) := (lg_bl b).shows (by decide) (by decide)
theorem Tp.le {N n K k : Nat} {es : List El} (T : Tp N n es) (h : N ≤ K) (h' : n ≤ k) : Tp K k es := ⟨T.tz.le h, T.len, fun g hg => HZ.le (T.hz g hg) h', T.ln⟩
end B
end PG

set_option maxRecDepth 100000
set_option maxHeartbeats 4000000

namespace PG
namespace B
open PySem PySem.Spec PyProof.Rows L2 RT

end B
end PG

set_option maxRecDepth 100000
set_option maxHeartbeats 4000000

namespace PG
namespace B
open PySem PySem.Spec PyProof.Rows L2 RT
structure Pd (M : Nat) (D : Int) (p q e : Rat) : Prop where
  dz : D ≠ 0
  db : D.natAbs.log2 + 2 ≤ M
  pi : ∃ P : Int, p * D = P ∧ P.natAbs.log2 + 2 ≤ M
  qi : ∃ P : Int, q * D = P ∧ P.natAbs.log2 + 2 ≤ M
  ei : ∃ P : Int, e * D = P ∧ P.natAbs.log2 + 2 ≤ M
structure Md (M : Nat) (m n : Mp) : Prop where
  one : ∃ D, Pd M D (m.a - n.a) (m.b - n.b) (m.e - n.e)
  two : ∃ D, Pd M D (m.c - n.c) (m.d - n.d) (m.f - n.f)
end B
end PG

set_option maxRecDepth 100000
set_option maxHeartbeats 4000000

namespace PG
namespace B
open PySem PySem.Spec PyProof.Rows L2 RT
section
variable {st : List Cell} {Q : Vl → List Cell → Prop}
end
end B
end PG

set_option maxRecDepth 100000
set_option maxHeartbeats 4000000

namespace PG
namespace B
open PySem PySem.Spec PyProof.Rows L2 RT
section
variable {st : List Cell} {Q : Vl → List Cell → Prop}
end
end B
end PG

set_option maxRecDepth 100000
set_option maxHeartbeats 4000000

namespace PG
namespace B
open PySem PySem.Spec PyProof.Rows L2 RT
section
variable {st : List Cell} {Q : Vl → List Cell → Prop}
end
end B
end PG

set_option maxRecDepth 100000
set_option maxHeartbeats 4000000

namespace PG
namespace B
open PySem PySem.Spec PyProof.Rows L2 RT
theorem planesOf_app : ∀ (k : Nat) (m : Mp) (a b : List El), planesOf k m (a ++ b) = planesOf k m a ++ planesOf (k + a.length) (comp m (transfer a)) b
  | k, m, [], b => by
    show planesOf k m b = [] ++ planesOf (k + 0) (comp m idM) b
    rw [List.nil_append, id_comp, Nat.add_zero]
  | k, m, e :: a, b => by
    show edgesAt k e m ++ planesOf (k + 1) (comp m (elM e)) (a ++ b) = edgesAt k e m ++ planesOf (k + 1) (comp m (elM e)) a ++ planesOf (k + (a.length + 1)) (comp m (transfer (e :: a))) b
    rw [planesOf_app, List.append_assoc, show k + (a.length + 1) = k + 1 + a.length by omega, transfer_cons, comp_assoc]
def isStop : El → Bool
  | .stop _ _ => true
  | _ => false
def cutE (up : Bool) : El → El
  | .stop lo hi => if up = true then .stop lo none else .stop none hi
  | e => e
def woE (es : List El) (x : Ed) : List El := es.take x.1 ++ [cutE x.2 (es.getD x.1 (.gap 0))] ++ es.drop (x.1 + 1)
theorem woE_split {a b : List El} {lo hi : Option Rat} {up : Bool} : woE (a ++ .stop lo hi :: b) (a.length, up) = a ++ cutE up (.stop lo hi) :: b := by
  unfold woE
  dsimp only
  rw [List.take_left, List.getD_eq_getElem?_getD, List.getElem?_append_right (Nat.le_refl _), Nat.sub_self, ← List.drop_drop, List.drop_left, List.append_assoc]
  rfl
theorem pl_split (a b : List El) (e : El) : planesOf 0 idM (a ++ e :: b) = planesOf 0 idM a ++ (edgesAt a.length e (transfer a) ++ planesOf (a.length + 1) (comp (transfer a) (elM e)) b) := by
  rw [planesOf_app, Nat.zero_add, comp_id]
  rfl
theorem edge_split {es : List El} {x : Ed × Hp3} (h : x ∈ planesOf 0 idM es) : ∃ a lo hi b, es = a ++ .stop lo hi :: b ∧ x.1.1 = a.length ∧ (x.1.2 = false → lowE a.length lo (transfer a) = [x]) ∧ (x.1.2 = true → uppE a.length hi (transfer a) = [x]) := by
  have go : ∀ (es : List El) (k : Nat) (m : Mp) (x : Ed × Hp3), x ∈ planesOf k m es → ∃ a lo hi b, es = a ++ .stop lo hi :: b ∧ x.1.1 = k + a.length ∧ (x.1.2 = false → lowE (k + a.length) lo (comp m (transfer a)) = [x]) ∧ (x.1.2 = true → uppE (k + a.length) hi (comp m (transfer a)) = [x]) := fun es => by
    induction es with
    | nil => exact fun k m x h => nomatch h
    | cons e es ih =>
      intro k m x h
      rcases List.mem_append.mp (show x ∈ edgesAt k e m ++ planesOf (k + 1) (comp m (elM e)) es from h) with h | h
      · have hc : comp m (transfer []) = m := id_comp m
        cases e with
        | stop lo hi =>
          refine ⟨[], lo, hi, es, rfl, ?_⟩
          rw [hc]
          rcases List.mem_append.mp (show x ∈ lowE k lo m ++ uppE k hi m from h) with h | h
          · cases lo with
            | none => exact nomatch h
            | some l =>
              have e : x = _ := List.mem_singleton.mp h
              rw [e]
              exact ⟨rfl, fun _ => rfl, fun h => nomatch h⟩
          · cases hi with
            | none => exact nomatch h
            | some l =>
              have e : x = _ := List.mem_singleton.mp h
              rw [e]
              exact ⟨rfl, (fun h => nomatch h), fun _ => rfl⟩
        | gap g => exact nomatch h
        | lens g c => exact nomatch h
        | prism g => exact nomatch h
        | afocal g => exact nomatch h
      · obtain ⟨a, lo, hi, b, e1, e2, e3, e4⟩ := ih (k + 1) _ x h
        refine ⟨e :: a, lo, hi, b, by rw [e1]; rfl, ?_, ?_, ?_⟩
        · rw [e2, List.length_cons]; omega
        · intro h
          have := e3 h
          rw [comp_assoc, ← transfer_cons] at this
          rw [List.length_cons, show k + (a.length + 1) = k + 1 + a.length by omega]
          exact this
        · intro h
          have := e4 h
          rw [comp_assoc, ← transfer_cons] at this
          rw [List.length_cons, show k + (a.length + 1) = k + 1 + a.length by omega]
          exact this
  obtain ⟨a, lo, hi, b, h1, h2, h3, h4⟩ := go es 0 idM x h
  rw [Nat.zero_add] at h2
  refine ⟨a, lo, hi, b, h1, h2, fun h => ?_, fun h => ?_⟩
  · have := h3 h
    rw [Nat.zero_add, comp_id] at this
    exact this
  · have := h4 h
    rw [Nat.zero_add, comp_id] at this
    exact this
theorem elM_cut (up : Bool) (lo hi : Option Rat) : elM (cutE up (.stop lo hi)) = idM := by
  cases up <;> rfl
theorem wo_planes {es : List El} {x : Ed × Hp3} (h : x ∈ planesOf 0 idM es) : (∀ y, y ∈ plT (woE es x.1) → y ∈ plT es) ∧ (∀ z, Rg (plT es) z ↔ Rg (plT (woE es x.1)) z ∧ valH x.2 z ≤ (x.2.r : Rat)) ∧ (plT (woE es x.1)).length + 1 = (plT es).length := by
  obtain ⟨a, lo, hi, b, rfl, e2, e3, e4⟩ := edge_split h
  have ex : x.1 = (a.length, x.1.2) := Prod.ext e2 rfl
  rw [ex, woE_split]
  unfold plT
  rw [pl_split, pl_split, elM_cut, show elM (.stop lo hi) = idM from rfl]
  generalize planesOf (a.length + 1) (comp (transfer a) idM) b = R
  generalize planesOf 0 idM a = A
  have ee : edgesAt a.length (.stop lo hi) (transfer a) = lowE a.length lo (transfer a) ++ uppE a.length hi (transfer a) := rfl
  rw [ee]
  have rg : ∀ (P S : List (Ed × Hp3)) (z : Ray), Rg ((P ++ S).map (·.2)) z ↔ Rg (P.map (·.2)) z ∧ Rg (S.map (·.2)) z := fun P S z => by
    unfold Rg
    rw [List.map_append, List.forall_mem_append]
  have one : ∀ z, Rg ([x].map (·.2)) z ↔ valH x.2 z ≤ (x.2.r : Rat) := fun z => by
    unfold Rg
    rw [List.map_cons, List.map_nil, List.forall_mem_singleton]
  cases hu : x.1.2 with
  | true =>
    rw [e4 hu]
    have ec : edgesAt a.length (cutE true (.stop lo hi)) (transfer a) = lowE a.length lo (transfer a) := List.append_nil _
    rw [ec]
    refine ⟨fun y hy => ?_, fun z => ?_, ?_⟩
    · rw [List.mem_map] at hy ⊢
      obtain ⟨w, hw, e⟩ := hy
      refine ⟨w, ?_, e⟩
      simp only [List.mem_append] at hw ⊢
      rcases hw with hw | hw | hw
      · exact .inl hw
      · exact .inr (.inl (.inl hw))
      · exact .inr (.inr hw)
    · rw [rg, rg, rg, rg, rg, one]
      exact ⟨fun ⟨p, ⟨q, r⟩, s⟩ => ⟨⟨p, q, s⟩, r⟩, fun ⟨⟨p, q, s⟩, r⟩ => ⟨p, ⟨q, r⟩, s⟩⟩
    · simp only [List.length_map, List.length_append, List.length_cons, List.length_nil]
      omega
  | false =>
    rw [e3 hu]
    have ec : edgesAt a.length (cutE false (.stop lo hi)) (transfer a) = uppE a.length hi (transfer a) := rfl
    rw [ec]
    refine ⟨fun y hy => ?_, fun z => ?_, ?_⟩
    · rw [List.mem_map] at hy ⊢
      obtain ⟨w, hw, e⟩ := hy
      refine ⟨w, ?_, e⟩
      simp only [List.mem_append] at hw ⊢
      rcases hw with hw | hw | hw
      · exact .inl hw
      · exact .inr (.inl (.inr hw))
      · exact .inr (.inr hw)
    · rw [rg, rg, rg, rg, rg, one]
      exact ⟨fun ⟨p, ⟨q, r⟩, s⟩ => ⟨⟨p, r, s⟩, q⟩, fun ⟨⟨p, r, s⟩, q⟩ => ⟨p, ⟨q, r⟩, s⟩⟩
    · simp only [List.length_map, List.length_append, List.length_cons, List.length_nil]
      omega
theorem wo_map {es : List El} {x : Ed × Hp3} (h : x ∈ planesOf 0 idM es) : (∀ k, transfer ((woE es x.1).take k) = transfer (es.take k)) ∧ (woE es x.1).length = es.length := by
  obtain ⟨a, lo, hi, b, rfl, e2, e3, e4⟩ := edge_split h
  have ex : x.1 = (a.length, x.1.2) := Prod.ext e2 rfl
  rw [ex, woE_split]
  refine ⟨fun k => ?_, by simp⟩
  rw [List.take_append, List.take_append, transfer_append, transfer_append]
  congr 1
  cases k - a.length with
  | zero => rfl
  | succ j =>
    rw [List.take_succ_cons, List.take_succ_cons, transfer_cons, transfer_cons, elM_cut]
    rfl
theorem cut_z' {N : Nat} {up : Bool} {e : El} (h : ElZ N e) : ElZ N (cutE up e) := by
  cases e with
  | stop lo hi =>
    cases up with
    | true => exact ⟨h.1, fun q e => nomatch e⟩
    | false => exact ⟨(fun q e => nomatch e), h.2⟩
  | gap g => exact h
  | lens p c => exact h
  | prism g => exact h
  | afocal g => exact h
theorem wo_tz {N : Nat} {es : List El} {x : Ed × Hp3} (T : Tz N es) (h : x ∈ planesOf 0 idM es) : Tz N (woE es x.1) := by
  refine ⟨?_, fun k => by rw [(wo_map h).1]; exact T.pre k⟩
  obtain ⟨a, lo, hi, b, rfl, e2, e3, e4⟩ := edge_split h
  have ex : x.1 = (a.length, x.1.2) := Prod.ext e2 rfl
  rw [ex, woE_split]
  intro e he
  rcases List.mem_append.mp he with he | he
  · exact T.el e (List.mem_append_left _ he)
  · rcases List.mem_cons.mp he with rfl | he
    · exact cut_z' (T.el _ (List.mem_append_right _ List.mem_cons_self))
    · exact T.el e (List.mem_append_right _ (List.mem_cons_of_mem _ he))
theorem wo_tp {N n : Nat} {es : List El} {x : Ed × Hp3} (T : Tp N n es) (h : x ∈ planesOf 0 idM es) : Tp N n (woE es x.1) :=
  ⟨wo_tz T.tz h, by rw [(wo_map h).2]; exact T.len, fun g hg => T.hz g ((wo_planes h).1 g hg), by have := (wo_planes h).2.2; have := T.ln; omega⟩
def redL (es : List El) : List Ed := ((planesOf 0 idM es).filter fun x => impB (plT (woE es x.1)) x.2).map (·.1)
theorem red_mem {es : List El} {e : Ed} {r : List Ed} (h : redL es = e :: r) : ∃ x ∈ planesOf 0 idM es, x.1 = e ∧ impB (plT (woE es x.1)) x.2 = true := by
  have : e ∈ redL es := by rw [h]; exact List.mem_cons_self
  obtain ⟨x, hx, rfl⟩ := List.mem_map.mp this
  obtain ⟨h1, h2⟩ := List.mem_filter.mp hx
  exact ⟨x, h1, rfl, h2⟩
structure Sm1 (N n : Nat) (es fs : List El) : Prop where
  tp : Tp N n fs
  rg : ∀ z, Rg (plT es) z ↔ Rg (plT fs) z
  tr : transfer fs = transfer es
  ln : fs.length = es.length
  pl : ∀ g ∈ plT fs, g ∈ plT es
theorem Sm1.step {N n : Nat} {es fs : List El} {e : Ed} {r : List Ed} (S : Sm1 N n es fs) (h : redL fs = e :: r) : Sm1 N n es (woE fs e) ∧ (plT (woE fs e)).length + 1 = (plT fs).length ∧ ∃ x ∈ planesOf 0 idM fs, x.1 = e := by
  obtain ⟨x, hx, rfl, hi⟩ := red_mem h
  obtain ⟨w1, w2, w3⟩ := wo_planes hx
  obtain ⟨m1, m2⟩ := wo_map hx
  have T := wo_tp S.tp hx
  have hd : ∀ k ∈ plT (woE fs x.1), Dir k := fun k hk => by
    obtain ⟨y, hy, rfl⟩ := List.mem_map.mp hk
    exact (planes_dir T.tz.ok y hy).1
  refine ⟨⟨T, fun z => ?_, ?_, by rw [m2]; exact S.ln, fun g hg => S.pl g (w1 g hg)⟩, w3, x, hx, rfl⟩
  · rw [S.rg, w2]
    exact ⟨fun h => h.1, fun h => ⟨h, (imp_iff hd).mp hi z h⟩⟩
  · have := m1 (woE fs x.1).length
    rw [List.take_length, m2, List.take_length] at this
    rw [this, S.tr]

end B
end PG

set_option maxRecDepth 100000
set_option maxHeartbeats 4000000

namespace PG
namespace B
open PySem PySem.Spec PyProof.Rows L2 RT
section
variable {st : List Cell} {Q : Vl → List Cell → Prop}
end
end B
end PG

set_option maxRecDepth 100000
set_option maxHeartbeats 4000000

namespace PG
namespace B
open PySem PySem.Spec PyProof.Rows L2 RT
theorem rtri (a b : Rat) : a < b ∨ a = b ∨ b < a := by grind
end B
end PG

set_option maxRecDepth 100000
set_option maxHeartbeats 4000000

namespace PG
namespace B
open PySem PySem.Spec PyProof.Rows L2 RT

def turnR (f x y : Ray) : Rat := (x.1 - f.1) * (y.2 - f.2) - (x.2 - f.2) * (y.1 - f.1)

def dn (x : Ray) : Nat := x.1.den * x.2.den
end B
end PG

set_option maxRecDepth 100000
set_option maxHeartbeats 4000000

namespace PG
namespace B
open PySem PySem.Spec PyProof.Rows L2 RT
def mv (x : Ray) (t : Rat) (d : Ray) : Ray := (x.1 + t * d.1, x.2 + t * d.2)
def dvec (g : Hp3) : Ray := (-(g.q : Rat), (g.p : Rat))
theorem val_mv (k : Hp3) (x d : Ray) (t : Rat) : valH k (mv x t d) = valH k x + t * valH k d := by
  unfold valH mv
  dsimp only
  grind
def sq (g : Hp3) : Rat := (g.p : Rat) * g.p + (g.q : Rat) * g.q
theorem sq_pos {g : Hp3} (h : Dir g) : 0 < sq g := n2_pos h.rat
theorem corner_no {hs : List Hp3} {c d : Ray} {s t : Rat} (hd : ¬ (d.1 = 0 ∧ d.2 = 0)) (hc : c ∈ corners hs) (h1 : Rg hs (mv c s d)) (h2 : Rg hs (mv c t d)) (hs0 : s < 0) (ht : 0 < t) : False := by
  obtain ⟨_, a, ha, b, hb, e⟩ := corners_mem.mp hc
  obtain ⟨d0, ea, eb⟩ := meet_val e
  have par : ∀ k ∈ hs, valH k c = (k.r : Rat) → valH k d = 0 := fun k hk ek => by
    have a := h1 k hk
    have b := h2 k hk
    rw [val_mv] at a b
    have a : s * valH k d ≤ 0 := by grind
    have b : t * valH k d ≤ 0 := by grind
    generalize valH k d = z at *
    rcases rtri z 0 with c | c | c
    · have := Rat.mul_pos (show 0 < -s by grind) (show 0 < -z by grind)
      grind
    · exact c
    · have := Rat.mul_pos ht c
      grind
  have pa := par a ha ea
  have pb := par b hb eb
  unfold valH at pa pb
  apply d0
  have n0 : 0 < d.1 * d.1 + d.2 * d.2 := n2_pos hd
  have key : (d.1 * d.1 + d.2 * d.2) * ((a.p : Rat) * b.q - (a.q : Rat) * b.p) = 0 := by grind
  rcases Rat.mul_eq_zero.mp key with z | z
  · grind
  · have : ((a.p * b.q - a.q * b.p : Int) : Rat) = ((0 : Int) : Rat) := by
      rw [Rat.intCast_sub, castM2, castM2]
      exact z
    exact Rat.intCast_inj.mp this
def Bd (hs : List Hp3) : Prop := ∃ b : Rat, 0 ≤ b ∧ ∀ z, Rg hs z → (-b ≤ z.1 ∧ z.1 ≤ b) ∧ -b ≤ z.2 ∧ z.2 ≤ b
theorem Bd.lin {hs : List Hp3} (h : Bd hs) (a b : Rat) : ∃ m, ∀ z, Rg hs z → lin2 a b z ≤ m := by
  obtain ⟨B, B0, hB⟩ := h
  have one : ∀ a v : Rat, -B ≤ v → v ≤ B → a * v ≤ (if 0 ≤ a then a * B else -a * B) := fun a v h1 h2 => by
    by_cases c : 0 ≤ a
    · rw [if_pos c]
      exact Rat.mul_le_mul_of_nonneg_left h2 c
    · rw [if_neg c]
      have := Rat.mul_le_mul_of_nonneg_left h1 (show 0 ≤ -a by grind)
      grind
  refine ⟨(if 0 ≤ a then a * B else -a * B) + (if 0 ≤ b then b * B else -b * B), fun z hz => ?_⟩
  obtain ⟨⟨h1, h2⟩, h3, h4⟩ := hB z hz
  have := one a z.1 h1 h2
  have := one b z.2 h3 h4
  unfold lin2
  grind
theorem Bd.sub {hs ks : List Hp3} (h : Bd hs) (hk : ∀ z, Rg ks z → Rg hs z) : Bd ks := by
  obtain ⟨B, B0, hB⟩ := h
  exact ⟨B, B0, fun z hz => hB z (hk z hz)⟩
theorem Bd.max {hs : List Hp3} (hd : ∀ g ∈ hs, Dir g) (h : Bd hs) {x0 : Ray} (hx : Rg hs x0) (a b : Rat) : ∃ y, Rg hs y ∧ ∀ z, Rg hs z → lin2 a b z ≤ lin2 a b y := by
  have s := sup_is (p := a) (q := b) hd hx
  obtain ⟨m, hm⟩ := h.lin a b
  cases e : supF a b hs with
  | none =>
    rw [e] at s
    obtain ⟨y, hy, h1⟩ := s (m + 1)
    have := hm y hy
    grind
  | some u =>
    rw [e] at s
    obtain ⟨h1, y, hy, h2⟩ := s
    exact ⟨y, hy, fun z hz => by rw [h2]; exact h1 z hz⟩
structure Edge (hs : List Hp3) (g : Hp3) (x y : Ray) (t : Rat) : Prop where
  gm : g ∈ hs
  hx : Rg hs x
  lx : valH g x = (g.r : Rat)
  hy : Rg hs y
  ey : y = mv x t (dvec g)
  t0 : 0 ≤ t
  all : ∀ z, Rg hs z → valH g z = (g.r : Rat) → ∃ s, 0 ≤ s ∧ s ≤ t ∧ z = mv x s (dvec g)
theorem mv_mv (x d : Ray) (s t : Rat) : mv (mv x s d) t d = mv x (s + t) d := by
  unfold mv
  exact Prod.ext (by dsimp only; grind) (by dsimp only; grind)
theorem Edge.only {hs : List Hp3} {g : Hp3} {x y c : Ray} {t : Rat} (hg : Dir g) (E : Edge hs g x y t) (hc : c ∈ corners hs) (ec : valH g c = (g.r : Rat)) : c = x ∨ c = y := by
  obtain ⟨s, s0, s1, es⟩ := E.all c (corners_mem.mp hc).1 ec
  have nz : ¬ ((dvec g).1 = 0 ∧ (dvec g).2 = 0) := fun h => hg.rat ⟨h.2, by have := h.1; unfold dvec at this; dsimp only at this; grind⟩
  by_cases c0 : s = 0
  · left
    rw [es, c0]
    unfold mv
    exact Prod.ext (by dsimp only; grind) (by dsimp only; grind)
  by_cases c1 : s = t
  · right
    rw [es, c1, E.ey]
  exfalso
  refine corner_no (s := -s) (t := t - s) nz hc ?_ ?_ (by grind) (by grind)
  · rw [es, mv_mv, show s + -s = 0 by grind]
    have : mv x 0 (dvec g) = x := by unfold mv; exact Prod.ext (by dsimp only; grind) (by dsimp only; grind)
    rw [this]
    exact E.hx
  · rw [es, mv_mv, show s + (t - s) = t by grind, ← E.ey]
    exact E.hy
end B
end PG

set_option maxRecDepth 100000
set_option maxHeartbeats 4000000

namespace PG
namespace B
open PySem PySem.Spec PyProof.Rows L2 RT
structure IsF (hs : List Hp3) (f : Ray) : Prop where
  c : f ∈ corners hs
  le : ∀ z, Rg hs z → f.1 < z.1 ∨ (f.1 = z.1 ∧ f.2 ≤ z.2)
structure IsL (hs : List Hp3) (l : Ray) : Prop where
  c : l ∈ corners hs
  le : ∀ z, Rg hs z → z.1 < l.1 ∨ (z.1 = l.1 ∧ z.2 ≤ l.2)
variable {hs : List Hp3} {f l : Ray}
structure LowP (hs : List Hp3) (f l x y : Ray) : Prop where
  xc : x ∈ corners hs
  yc : y ∈ corners hs
  lt : befR x y = true
  xl : x = f ∨ turnR f l x < 0
  yl : y = l ∨ turnR f l y < 0
  no : ∀ c ∈ corners hs, turnR f l c < 0 → befR x c = true → befR c y = true → False
end B
end PG

set_option maxRecDepth 100000
set_option maxHeartbeats 4000000

namespace PG
namespace B
open PySem PySem.Spec PyProof.Rows L2 RT
def neg (z : Ray) : Ray := (-z.1, -z.2)
theorem neg_neg (z : Ray) : neg (neg z) = z := Prod.ext (by show - -z.1 = z.1; grind) (by show - -z.2 = z.2; grind)
structure UpP (hs : List Hp3) (f l x y : Ray) : Prop where
  xc : x ∈ corners hs
  yc : y ∈ corners hs
  lt : befR x y = true
  xl : x = f ∨ 0 < turnR f l x
  yl : y = l ∨ 0 < turnR f l y
  no : ∀ c ∈ corners hs, 0 < turnR f l c → befR x c = true → befR c y = true → False
section
variable {hs : List Hp3} {f l : Ray}
end

def prs {α : Type} : List α → List (α × α)
  | x :: y :: r => (x, y) :: prs (y :: r)
  | _ => []
theorem prs_mem : ∀ {L : List Ray}, SrtR L → ∀ {x y : Ray}, (x, y) ∈ prs L ↔ x ∈ L ∧ y ∈ L ∧ befR x y = true ∧ ∀ c ∈ L, befR x c = true → befR c y = true → False
  | [], _, x, y => ⟨(fun h => nomatch h), (fun h => nomatch h.1)⟩
  | [a], _, x, y => by
    refine ⟨(fun h => nomatch h), fun ⟨h1, h2, h3, _⟩ => ?_⟩
    rw [List.mem_singleton.mp h1, List.mem_singleton.mp h2, befR_irrefl] at h3
    exact nomatch h3
  | a :: b :: r, s, x, y => by
    obtain ⟨sa, sr⟩ := List.pairwise_cons.mp s
    have irr : ∀ {c : Ray}, befR c c = true → False := fun {c} h => by
      rw [befR_irrefl] at h
      exact nomatch h
    have asym : ∀ {c d : Ray}, befR c d = true → befR d c = true → False := fun {c d} h h' => by
      rw [befR_asymm h] at h'
      exact nomatch h'
    have ab := sa b List.mem_cons_self
    show (x, y) ∈ (a, b) :: prs (b :: r) ↔ _
    rw [List.mem_cons, prs_mem sr]
    constructor
    · rintro (e | ⟨h1, h2, h3, h4⟩)
      · cases e
        refine ⟨List.mem_cons_self, List.mem_cons_of_mem _ List.mem_cons_self, ab, fun c hc h1 h2 => ?_⟩
        rcases List.mem_cons.mp hc with rfl | hc
        · exact irr h1
        rcases List.mem_cons.mp hc with rfl | hc
        · exact irr h2
        · exact asym ((List.pairwise_cons.mp sr).1 c hc) h2
      · refine ⟨List.mem_cons_of_mem _ h1, List.mem_cons_of_mem _ h2, h3, fun c hc g1 g2 => ?_⟩
        rcases List.mem_cons.mp hc with rfl | hc
        · exact asym (sa x h1) g1
        · exact h4 c hc g1 g2
    · rintro ⟨h1, h2, h3, h4⟩
      have yb : y ∈ b :: r := by
        rcases List.mem_cons.mp h2 with rfl | h
        · rcases List.mem_cons.mp h1 with rfl | h
          · exact (irr h3).elim
          · exact (asym (sa x h) h3).elim
        · exact h
      rcases List.mem_cons.mp h1 with rfl | h
      · left
        rcases List.mem_cons.mp yb with rfl | hy
        · rfl
        · exact (h4 b (List.mem_cons_of_mem _ List.mem_cons_self) ab ((List.pairwise_cons.mp sr).1 y hy)).elim
      · exact .inr ⟨h, yb, h3, fun c hc => h4 c (List.mem_cons_of_mem _ hc)⟩
end B
end PG

set_option maxRecDepth 100000
set_option maxHeartbeats 4000000

namespace PG
namespace B
open PySem PySem.Spec PyProof.Rows L2 RT
def dd : List Hp3 → List Hp3
  | [] => []
  | g :: r => if g ∈ r then dd r else g :: dd r
open Classical in
noncomputable def ed (hs : List Hp3) (g : Hp3) : Ray × Ray × Rat := if h : ∃ w : Ray × Ray × Rat, Edge hs g w.1 w.2.1 w.2.2 then Classical.choose h else ((0, 0), (0, 0), 0)
noncomputable def T (hs : List Hp3) (g : Hp3) : Rat := (ed hs g).2.2
def cross (e : Ray × Ray) : Rat := e.1.1 * e.2.2 - e.1.2 * e.2.1
def Un (hs : List Hp3) : Prop := ∀ g ∈ hs, ∀ k ∈ hs, ∀ x y t s, Edge hs g x y t → Edge hs k x y s → 0 < t → 0 < s → g = k
noncomputable def E2 (hs : List Hp3) : List (Ray × Ray) := ((dd hs).filter fun g => decide (0 < T hs g)).map fun g => ((ed hs g).1, (ed hs g).2.1)
section
variable {hs : List Hp3} {f l : Ray} {mid : List Ray}
end
end B
end PG

set_option maxRecDepth 100000
set_option maxHeartbeats 4000000

namespace PG
namespace B
open PySem PySem.Spec PyProof.Rows L2 RT
noncomputable def twoA (hs : List Hp3) : Rat := ((dd hs).map fun g => T hs g * (g.r : Rat)).sum
section
variable {hs : List Hp3} {f l : Ray} {mid : List Ray}
end
def Inn (hs : List Hp3) (x : Ray) : Prop := ∀ g ∈ hs, valH g x < (g.r : Rat)
theorem Inn.rg {hs : List Hp3} {x : Ray} (h : Inn hs x) : Rg hs x := fun g hg => by
  have := h g hg
  grind
end B
end PG

set_option maxRecDepth 100000
set_option maxHeartbeats 4000000

namespace PG
namespace B
open PySem PySem.Spec PyProof.Rows L2 RT
def Pm (g : Hp3) : Prop := Dir g ∧ gcd3 g.p g.q g.r = 1
theorem gcd3_mul {n x y z : Int} (hn : 0 ≤ n) : gcd3 (n * x) (n * y) (n * z) = n * gcd3 x y z := by
  unfold gcd3
  rw [Int.gcd_mul_left, Int.natCast_mul, show ((n.natAbs : Nat) : Int) = n by omega, Int.gcd_mul_left, Int.natCast_mul, show ((n.natAbs : Nat) : Int) = n by omega]
theorem prop_eq {g k : Hp3} (hg : Pm g) (hk : Pm k) {t s : Rat} (t0 : 0 < t) (s0 : 0 < s) (hp : t * (g.p : Rat) = s * (k.p : Rat)) (hq : t * (g.q : Rat) = s * (k.q : Rat)) (hr : t * (g.r : Rat) = s * (k.r : Rat)) : g = k := by
  obtain ⟨N, M, N0, M0, e⟩ : ∃ N M : Int, 0 < N ∧ 0 < M ∧ t * (M : Rat) = s * (N : Rat) := by
    have num : ∀ q : Rat, 0 < q → 0 < q.num := fun q h => by
      have h1 := num_neg_iff q
      have h2 := Rat.num_eq_zero (q := q)
      refine Classical.byContradiction fun n => ?_
      by_cases c : q.num < 0
      · have := h1.mp c
        grind
      · have := h2.mp (by omega)
        grind
    refine ⟨t.num * s.den, s.num * t.den, ?_, ?_, ?_⟩
    · exact Int.mul_pos (num t t0) (by have := s.den_pos; omega)
    · exact Int.mul_pos (num s s0) (by have := t.den_pos; omega)
    · have dm : ∀ q : Rat, q * ((q.den : Int) : Rat) = (q.num : Rat) := fun q => by
        have h1 := Rat.num_divInt_den q
        have h2 := divInt_mul (a := q.num) (d := ((q.den : Nat) : Int)) (by have := q.den_pos; omega)
        rw [h1, Rat.mul_comm] at h2
        exact h2
      have a := dm t
      have b := dm s
      rw [castM2, castM2, ← a, ← b]
      grind
  have step : ∀ a b : Int, t * (a : Rat) = s * (b : Rat) → N * a = M * b := fun a b h => by
    have : ((N * a : Int) : Rat) = ((M * b : Int) : Rat) := by
      rw [castM2, castM2]
      have : s * ((N : Rat) * (a : Rat) - (M : Rat) * (b : Rat)) = 0 := by grind
      have := (Rat.mul_eq_zero.mp this).resolve_left (by grind)
      grind
    exact Rat.intCast_inj.mp this
  have ep := step _ _ hp
  have eq := step _ _ hq
  have er := step _ _ hr
  have g1 := gcd3_mul (x := g.p) (y := g.q) (z := g.r) (Int.le_of_lt N0)
  have g2 := gcd3_mul (x := k.p) (y := k.q) (z := k.r) (Int.le_of_lt M0)
  rw [ep, eq, er, g2, hg.2, hk.2] at g1
  have nm : M = N := by omega
  rw [nm] at ep eq er
  have c1 := Int.eq_of_mul_eq_mul_left (show N ≠ 0 by omega) ep
  have c2 := Int.eq_of_mul_eq_mul_left (show N ≠ 0 by omega) eq
  have c3 := Int.eq_of_mul_eq_mul_left (show N ≠ 0 by omega) er
  cases g
  cases k
  dsimp only at c1 c2 c3
  rw [c1, c2, c3]

theorem Edge.mono {hs ks : List Hp3} {g : Hp3} {x y : Ray} {t : Rat} (E : Edge hs g x y t) (gm : g ∈ ks) (hx : Rg ks x) (hy : Rg ks y) (h : ∀ z, Rg ks z → Rg hs z) : Edge ks g x y t :=
  ⟨gm, hx, E.lx, hy, E.ey, E.t0, fun z hz => E.all z (h z hz)⟩
end B
end PG

set_option maxRecDepth 100000
set_option maxHeartbeats 4000000

namespace PG
namespace B
open PySem PySem.Spec PyProof.Rows L2 RT
end B
end PG

set_option maxRecDepth 100000
set_option maxHeartbeats 4000000

namespace PG
namespace B
open PySem PySem.Spec PyProof.Rows L2 RT
def mapH (i : Mp) (g : Hp3) : Hp3 := mkH ((g.p : Rat) * i.a + (g.q : Rat) * i.c) ((g.p : Rat) * i.b + (g.q : Rat) * i.d) ((g.r : Rat) - ((g.p : Rat) * i.e + (g.q : Rat) * i.f))
theorem mapH_nz {i : Mp} (hi : det i = 1) {g : Hp3} (hg : Dir g) : ¬ ((g.p : Rat) * i.a + (g.q : Rat) * i.c = 0 ∧ (g.p : Rat) * i.b + (g.q : Rat) * i.d = 0) := fun ⟨h1, h2⟩ => by
  unfold det at hi
  refine hg.rat ⟨?_, ?_⟩
  · have : (g.p : Rat) * (i.a * i.d - i.b * i.c) = 0 := by grind
    rw [hi] at this
    grind
  · have : (g.q : Rat) * (i.a * i.d - i.b * i.c) = 0 := by grind
    rw [hi] at this
    grind
theorem mapH_spec {i : Mp} (hi : det i = 1) {g : Hp3} (hg : Dir g) : Pm (mapH i g) ∧ ∃ t : Rat, 0 < t ∧ ((mapH i g).p : Rat) = t * ((g.p : Rat) * i.a + (g.q : Rat) * i.c) ∧ ((mapH i g).q : Rat) = t * ((g.p : Rat) * i.b + (g.q : Rat) * i.d) ∧ ((mapH i g).r : Rat) = t * ((g.r : Rat) - ((g.p : Rat) * i.e + (g.q : Rat) * i.f)) :=
  ⟨⟨mkH_dir (mapH_nz hi hg), mkH_prim (mapH_nz hi hg)⟩, mkH_spec (mapH_nz hi hg)⟩
theorem mapH_rg {i : Mp} (hi : det i = 1) {g : Hp3} (hg : Dir g) : ∃ t : Rat, 0 < t ∧ ∀ z, valH (mapH i g) z - ((mapH i g).r : Rat) = t * (valH g (appM i z) - (g.r : Rat)) := by
  obtain ⟨_, t, t0, h1, h2, h3⟩ := mapH_spec hi hg
  refine ⟨t, t0, fun z => ?_⟩
  unfold valH appM
  rw [h1, h2, h3]
  dsimp only
  grind
structure Iv (m i : Mp) : Prop where
  hi : det i = 1
  mi : ∀ z, appM m (appM i z) = z
  im : ∀ z, appM i (appM m z) = z
  a : m.a = i.d
  b : m.b = -i.b
  c : m.c = -i.c
  d : m.d = i.a
theorem map_rg {hs : List Hp3} {m i : Mp} (V : Iv m i) (hp : ∀ g ∈ hs, Dir g) (z : Ray) : (Rg (hs.map (mapH i)) z ↔ Rg hs (appM i z)) ∧ (Inn (hs.map (mapH i)) z ↔ Inn hs (appM i z)) := by
  have key : ∀ g ∈ hs, (valH (mapH i g) z ≤ ((mapH i g).r : Rat) ↔ valH g (appM i z) ≤ (g.r : Rat)) ∧ (valH (mapH i g) z < ((mapH i g).r : Rat) ↔ valH g (appM i z) < (g.r : Rat)) := fun g hg => by
    obtain ⟨t, t0, h⟩ := mapH_rg V.hi (hp g hg)
    have h := h z
    generalize valH (mapH i g) z = u at *
    generalize valH g (appM i z) = v at *
    refine ⟨⟨fun a => ?_, fun a => ?_⟩, ⟨fun a => ?_, fun a => ?_⟩⟩
    · refine Classical.byContradiction fun n => ?_
      have := Rat.mul_pos t0 (show 0 < v - (g.r : Rat) by grind)
      grind
    · have := Rat.mul_le_mul_of_nonneg_left (show v - (g.r : Rat) ≤ 0 by grind) (show 0 ≤ t by grind)
      grind
    · refine Classical.byContradiction fun n => ?_
      have := Rat.mul_le_mul_of_nonneg_left (show 0 ≤ v - (g.r : Rat) by grind) (show 0 ≤ t by grind)
      grind
    · have := Rat.mul_pos t0 (show 0 < (g.r : Rat) - v by grind)
      grind
  unfold Rg Inn
  constructor
  · constructor
    · intro h g hg
      exact (key g hg).1.mp (h _ (List.mem_map.mpr ⟨g, hg, rfl⟩))
    · intro h k hk
      obtain ⟨g, hg, rfl⟩ := List.mem_map.mp hk
      exact (key g hg).1.mpr (h g hg)
  · constructor
    · intro h g hg
      exact (key g hg).2.mp (h _ (List.mem_map.mpr ⟨g, hg, rfl⟩))
    · intro h k hk
      obtain ⟨g, hg, rfl⟩ := List.mem_map.mp hk
      exact (key g hg).2.mpr (h g hg)
theorem Bd.map {hs : List Hp3} {m i : Mp} (V : Iv m i) (hp : ∀ g ∈ hs, Dir g) (h : Bd hs) : Bd (hs.map (mapH i)) := by
  obtain ⟨u1, h1⟩ := h.lin m.a m.b
  obtain ⟨u2, h2⟩ := h.lin (-m.a) (-m.b)
  obtain ⟨u3, h3⟩ := h.lin m.c m.d
  obtain ⟨u4, h4⟩ := h.lin (-m.c) (-m.d)
  have ab : ∀ u : Rat, ∃ v : Rat, 0 ≤ v ∧ u ≤ v := fun u => by
    by_cases c : 0 ≤ u
    · exact ⟨u, c, Rat.le_refl⟩
    · exact ⟨0, Rat.le_refl, by grind⟩
  obtain ⟨v1, p1, q1⟩ := ab (u1 + m.e)
  obtain ⟨v2, p2, q2⟩ := ab (u2 - m.e)
  obtain ⟨v3, p3, q3⟩ := ab (u3 + m.f)
  obtain ⟨v4, p4, q4⟩ := ab (u4 - m.f)
  refine ⟨v1 + v2 + v3 + v4, by grind, fun z hz => ?_⟩
  have hz := ((map_rg V hp z).1).mp hz
  have e := V.mi z
  have a1 := h1 _ hz
  have a2 := h2 _ hz
  have a3 := h3 _ hz
  have a4 := h4 _ hz
  generalize appM i z = w at *
  unfold appM at e
  have e1 := congrArg Prod.fst e
  have e2 := congrArg Prod.snd e
  unfold lin2 at a1 a2 a3 a4
  dsimp only at e1 e2
  exact ⟨⟨by grind, by grind⟩, by grind, by grind⟩
end B
end PG

set_option maxRecDepth 100000
set_option maxHeartbeats 4000000

namespace PG
namespace B
open PySem PySem.Spec PyProof.Rows L2 RT
end B
end PG

set_option maxRecDepth 100000
set_option maxHeartbeats 4000000
namespace PG
open PySem PySem.Spec PyProof.Rows L2 RT
variable {st : List Cell} {Q : Vl → List Cell → Prop}
end PG

set_option maxRecDepth 100000
set_option maxHeartbeats 4000000

namespace PG
namespace B
open PySem PySem.Spec PyProof.Rows L2 RT
section
variable {st : List Cell} {Q : Vl → List Cell → Prop} {hs : List Hp3}
theorem inv_z {x : Mp} {n : Nat} (hx : MZ n x) : MZ (4 * n) (invM x) := by
  obtain ⟨⟨a1, b1, c1⟩, d1, e1, f1⟩ := hx
  have m : ∀ a b c d : Rat, zb a ≤ n → zb b ≤ n → zb c ≤ n → zb d ≤ n → zb (a * b - c * d) ≤ 4 * n := fun a b c d q1 q2 q3 q4 => by
    have := zb_mul a b
    have := zb_mul c d
    have := zb_sub (a * b) (c * d)
    omega
  have nb := zb_neg x.b
  have nc := zb_neg x.c
  refine ⟨⟨?_, ?_, ?_⟩, ?_, ?_, ?_⟩
  · show zb x.d ≤ _
    omega
  · show zb (-x.b) ≤ _
    omega
  · show zb (-x.c) ≤ _
    omega
  · show zb x.a ≤ _
    omega
  · exact m _ _ _ _ b1 f1 d1 e1
  · exact m _ _ _ _ c1 e1 a1 f1
theorem det_inv {m : Mp} (h : det m = 1) : det (invM m) = 1 := by
  unfold det invM at *
  dsimp only
  grind
theorem mapped_ok {m : Mp} {n : Nat} (dm : det m = 1) (hd : ∀ g ∈ hs, Dir g) (hg : ∀ g ∈ hs, HZ n g) (hm : MZ n m) (hn : n ≤ 10000) (hl : hs.length ≤ 1000) (h : Q (.d (.lst ((hs.map (mapH (invM m))).map hpD))) st) : sp_map_half_planes [.d (mpD m), .d (.lst (hs.map hpD))] st Q := by
  unfold sp_map_half_planes
  refine ⟨rfl, ?_⟩
  have mz := inv_z hm
  have dt := det_inv dm
  obtain ⟨i, hi⟩ : ∃ i, invM m = i := ⟨_, rfl⟩
  rw [hi] at h mz dt
  refine seq_to ⟨[some (.d (mpD m)), some (.d (.lst (hs.map hpD))), some (.d (fr i.a)), some (.d (fr i.b)), some (.d (fr i.c)), some (.d (fr i.d)), some (.d (fr i.e)), some (.d (fr i.f)), none, none, none, none, none], st⟩ (fun K hK => invert_ok hm (by omega) ?_) ?_
  · rw [hi]
    exact ⟨rfl, hK⟩
  let S : List Hp3 → Option Vl → Option Vl → Option Vl → Option Vl → M := fun acc z9 z10 z11 z12 => ⟨[some (.d (mpD m)), some (.d (.lst (hs.map hpD))), some (.d (fr i.a)), some (.d (fr i.b)), some (.d (fr i.c)), some (.d (fr i.d)), some (.d (fr i.e)), some (.d (fr i.f)), some (.c st.length), z9, z10, z11, z12], st ++ [Cell.lst (acc.map hpD)]⟩
  refine seq_to (S [] none none none none) (fun K hK => ⟨lineN rfl, hK⟩) ?_
  refine seq_mid (fun mm => ∃ z9 z10 z11 z12, mm = S (hs.map (mapH i)) z9 z10 z11 z12) (fun K hK => ?_) ?_
  · refine each_inv (lk := none) hpD (fun r mm => ∃ done z9 z10 z11 z12, hs = done ++ r ∧ mm = S (done.map (mapH i)) z9 z10 z11 z12) (fun _ _ _ => trivial) ?_ ?_ hs _ ⟨[], none, none, none, none, rfl, rfl⟩
    · rintro g r _ K2 hK2 ⟨done, z9, z10, z11, z12, e1, rfl⟩
      have gm : g ∈ hs := by
        rw [e1]
        exact List.mem_append_right _ List.mem_cons_self
      have dl : done.length ≤ 1000 := by
        have := congrArg List.length e1
        rw [List.length_append] at this
        omega
      obtain ⟨g1, g2, g3⟩ := hg g gm
      have w1 := zb_int g.p
      have w2 := zb_int g.q
      have w3 := zb_int g.r
      obtain ⟨⟨a1, b1, c1⟩, d1, e1', f1⟩ := mz
      have pr : ∀ a b : Rat, zb a ≤ n → zb b ≤ 4 * n → zb (a * b) ≤ 5 * n := fun a b q1 q2 => by
        have := zb_mul a b
        omega
      let f : Rat → Option Vl := fun q => some (.d (fr q))
      let z : Option Vl := some (.d (hpD g))
      refine seq_to (S (done.map (mapH i)) z (f g.p) z11 z12) (fun K hK => frac1_ok hK) ?_
      refine seq_to (S (done.map (mapH i)) z (f g.p) (f g.q) z12) (fun K hK => frac1_ok hK) ?_
      have p1 := pr (g.p : Rat) i.e (by omega) e1'
      have p2 := pr (g.q : Rat) i.f (by omega) f1
      have p3 := zb_add ((g.p : Rat) * i.e) ((g.q : Rat) * i.f)
      have p4 := zb_sub (g.r : Rat) ((g.p : Rat) * i.e + (g.q : Rat) * i.f)
      refine seq_to (S (done.map (mapH i)) z (f g.p) (f g.q) (f ((g.r : Rat) - ((g.p : Rat) * i.e + (g.q : Rat) * i.f)))) (fun K hK => ?_) ?_
      · refine frac1_ok ?_
        refine multiply_ok (zm (by omega)) ?_
        refine multiply_ok (zm (by omega)) ?_
        refine add_ok (zm (by omega)) ?_
        exact subtract_ok (zm (by omega)) hK
      have p5 := pr (g.p : Rat) i.a (by omega) a1
      have p6 := pr (g.q : Rat) i.c (by omega) c1
      have p7 := zb_add ((g.p : Rat) * i.a) ((g.q : Rat) * i.c)
      have p8 := pr (g.p : Rat) i.b (by omega) b1
      have p9 := pr (g.q : Rat) i.d (by omega) d1
      have p10 := zb_add ((g.p : Rat) * i.b) ((g.q : Rat) * i.d)
      refine append_st (k := st.length) (xs := (done.map (mapH i)).map hpD) (hpD (mapH i g)) ?_ ?_ (fun C hC => ?_) (small_lt (by rw [List.length_map, List.length_map]; omega)) ?_
      · rfl
      · exact getElem_last _ _
      · refine multiply_ok (zm (by omega)) ?_
        refine multiply_ok (zm (by omega)) ?_
        refine add_ok (zm (by omega)) ?_
        refine multiply_ok (zm (by omega)) ?_
        refine multiply_ok (zm (by omega)) ?_
        refine add_ok (zm (by omega)) ?_
        exact mkplane_ok (n := 20 * n) (mapH_nz dt (hd g gm)) (by omega) (by omega) (by omega) (by omega) hC
      · refine hK2 _ ⟨done ++ [g], _, _, _, _, by rw [e1, List.append_assoc]; rfl, congrArg (M.mk _) ?_⟩
        show (st ++ [_]).set st.length _ = st ++ [_]
        rw [set_last, List.map_append, List.map_append]
        rfl
    · rintro _ ⟨done, z9, z10, z11, z12, e1, rfl⟩
      rw [List.append_nil] at e1
      exact hK _ ⟨z9, z10, z11, z12, by rw [e1]⟩
  rintro _ ⟨z9, z10, z11, z12, rfl⟩
  refine Eq.mp (if_neg (Nat.lt_irrefl _)).symm (onC_mk (getElem_last _ _) ?_)
  show Q _ ((st ++ [_]).take st.length)
  rw [List.take_left]
  exact h
end
end B
end PG

set_option maxRecDepth 100000
set_option maxHeartbeats 4000000

namespace PG
namespace C
open PySem PySem.Spec PyProof.Rows L2 RT
def sq (t a b : Rat) : Nat → Rat
  | 0 => a
  | n + 1 => sq t b (t * b - a) n
def Fm (t a b : Rat) : Rat := a * a - t * a * b + b * b
def pw (c : Rat) : Nat → Rat
  | 0 => 1
  | n + 1 => c * pw c n
theorem sq_shift (t : Rat) : ∀ (k n : Nat) (a b : Rat), sq t (sq t a b k) (sq t a b (k + 1)) n = sq t a b (k + n)
  | 0, n, a, b => by
    show sq t a b n = _
    rw [Nat.zero_add]
  | k + 1, n, a, b => by
    rw [show k + 1 + n = (k + n) + 1 by omega]
    exact sq_shift t k n b (t * b - a)
theorem fm_step (t a b : Rat) : Fm t b (t * b - a) = Fm t a b := by
  unfold Fm
  grind
theorem fm_sq (t : Rat) : ∀ (n : Nat) (a b : Rat), Fm t (sq t a b n) (sq t a b (n + 1)) = Fm t a b
  | 0, a, b => rfl
  | n + 1, a, b => by
    rw [← fm_step t a b]
    exact fm_sq t n b (t * b - a)
theorem sq_neg (t : Rat) : ∀ (n : Nat) (a b : Rat), sq t (-a) (-b) n = -sq t a b n
  | 0, a, b => rfl
  | n + 1, a, b => by
    show sq t (-b) (t * -b - -a) n = -sq t b (t * b - a) n
    rw [← sq_neg t n b (t * b - a)]
    congr 1
    grind
theorem pw_pos {c : Rat} (h : 0 < c) : ∀ n, 0 < pw c n
  | 0 => by unfold pw; decide
  | n + 1 => Rat.mul_pos h (pw_pos h n)
theorem pw_sq (c : Rat) : ∀ n, pw c n * pw c n = pw (c * c) n
  | 0 => by unfold pw; grind
  | n + 1 => by
    unfold pw
    rw [← pw_sq c n]
    grind
theorem pw_le {c d : Rat} (h0 : 0 ≤ c) (h : c ≤ d) : ∀ n, 0 ≤ pw c n ∧ pw c n ≤ pw d n
  | 0 => by unfold pw; exact ⟨by decide, Rat.le_refl⟩
  | n + 1 => by
    obtain ⟨h1, h2⟩ := pw_le h0 h n
    unfold pw
    have a := mul_le h2 h0
    have b := mul_le (a := pw d n) h (by grind)
    have c := mul_le h1 h0
    exact ⟨by grind, by grind⟩
theorem pw_two (n : Nat) : pw 2 n = ((2 ^ n : Nat) : Rat) := by
  induction n with
  | zero => rfl
  | succ n ih =>
    unfold pw
    rw [ih, Nat.pow_succ, Rat.natCast_mul]
    have : ((2 : Nat) : Rat) = 2 := rfl
    rw [this]
    grind
theorem grow {t : Rat} (ht : 5 / 2 ≤ t) : ∀ (n : Nat) (a b : Rat), 0 ≤ a → a ≤ b → 0 ≤ sq t a b n ∧ sq t a b n ≤ sq t a b (n + 1) ∧ pw (3 / 2) n * b ≤ sq t a b (n + 1)
  | 0, a, b, h0, h1 => ⟨h0, h1, by unfold pw; show 1 * b ≤ b; grind⟩
  | n + 1, a, b, h0, h1 => by
    have hb : 0 ≤ b := by grind
    have m := mul_le ht hb
    have h2 : b ≤ t * b - a := by grind
    obtain ⟨q1, q2, q3⟩ := grow ht n b (t * b - a) hb h2
    refine ⟨q1, q2, ?_⟩
    have p := (pw_le (c := 3 / 2) (d := 3 / 2) (by grind) (by grind) n).1
    have : 3 / 2 * b ≤ t * b - a := by grind
    have w := mul_le this p
    unfold pw
    show 3 / 2 * pw (3 / 2) n * b ≤ sq t b (t * b - a) (n + 1)
    grind
def Up (a b : Rat) : Prop := 0 ≤ a ∧ a ≤ b
def Down (a b : Rat) : Prop := a ≤ 0 ∧ b ≤ a
theorem unturned {a b : Rat} (h1 : ¬ Up a b) (h2 : ¬ Down a b) : (0 < a ∧ b < a) ∨ (a < 0 ∧ a < b) := by
  unfold Up at h1
  unfold Down at h2
  by_cases c : 0 < a
  · exact .inl ⟨c, by grind⟩
  · refine .inr ⟨?_, by grind⟩
    refine Classical.byContradiction fun n => ?_
    have : a = 0 := by grind
    subst this
    grind
theorem ft_pos {t a b : Rat} (ht : 5 / 2 ≤ t) (h0 : 0 ≤ b) (h1 : b ≤ a) : Fm t a b ≤ t * (a * a) ∧ -Fm t a b ≤ t * (a * a) := by
  have a0 : 0 ≤ a := by grind
  have t0 : 0 ≤ t := by grind
  have m1 := mul_le h1 a0
  have m2 := mul_le h1 h0
  have m3 := Rat.mul_nonneg a0 h0
  have m4 := Rat.mul_nonneg t0 m3
  have m5 := mul_le m1 t0
  have m6 := Rat.mul_nonneg a0 a0
  have m7 := mul_le ht m6
  have m8 := Rat.mul_nonneg h0 h0
  unfold Fm
  exact ⟨by grind, by grind⟩
theorem turn_pos {t : Rat} (ht : 5 / 2 ≤ t) : ∀ (n : Nat) (a b : Rat), 0 < a → (∀ i, i ≤ n + 1 → ¬ Up (sq t a b i) (sq t a b (i + 1)) ∧ ¬ Down (sq t a b i) (sq t a b (i + 1))) →
    pw 2 n * Fm t a b ≤ t * (a * a) ∧ pw 2 n * -Fm t a b ≤ t * (a * a)
  | n, a, b, h0, h => by
    have c0 := unturned (h 0 (by omega)).1 (h 0 (by omega)).2
    have c1 := unturned (h 1 (by omega)).1 (h 1 (by omega)).2
    have c0 : (0 < a ∧ b < a) ∨ (a < 0 ∧ a < b) := c0
    have c1 : (0 < b ∧ t * b - a < b) ∨ (b < 0 ∧ b < t * b - a) := c1
    have hba : b < a := by grind
    have hb : 0 < b := by
      rcases c1 with ⟨h, _⟩ | ⟨h1, h2⟩
      · exact h
      · have := mul_le (a := -b) (b := 5 / 2) (c := t) ht (by grind)
        grind
    have hs : t * b - a < b := by grind
    cases n with
    | zero =>
      unfold pw
      obtain ⟨q1, q2⟩ := ft_pos ht (Rat.le_of_lt hb) (Rat.le_of_lt hba)
      exact ⟨by grind, by grind⟩
    | succ n =>
      obtain ⟨q1, q2⟩ := turn_pos ht n b (t * b - a) hb fun i hi => h (i + 1) (by omega)
      rw [fm_step] at q1 q2
      have m := mul_le ht (Rat.le_of_lt hb)
      have hba2 : 3 / 2 * b ≤ a := by grind
      have s1 := mul_le hba2 (show 0 ≤ 3 / 2 * b by grind)
      have s2 := mul_le hba2 (Rat.le_of_lt h0)
      have bb := Rat.mul_nonneg (Rat.le_of_lt hb) (Rat.le_of_lt hb)
      have s3 : 2 * (b * b) ≤ a * a := by grind
      have s4 := mul_le s3 (show 0 ≤ t by grind)
      unfold pw
      exact ⟨by grind, by grind⟩
theorem up_neg {a b : Rat} : Up (-a) (-b) ↔ Down a b := by
  unfold Up Down
  constructor
  · intro h
    exact ⟨by grind, by grind⟩
  · intro h
    exact ⟨by grind, by grind⟩
theorem fm_neg (t a b : Rat) : Fm t (-a) (-b) = Fm t a b := by
  unfold Fm
  grind
theorem turn_gen {t : Rat} (ht : 5 / 2 ≤ t) (n : Nat) (a b : Rat) (h : ∀ i, i ≤ n + 1 → ¬ Up (sq t a b i) (sq t a b (i + 1)) ∧ ¬ Down (sq t a b i) (sq t a b (i + 1))) :
    pw 2 n * Fm t a b ≤ t * (a * a) ∧ pw 2 n * -Fm t a b ≤ t * (a * a) := by
  have c0 : (0 < a ∧ b < a) ∨ (a < 0 ∧ a < b) := unturned (h 0 (by omega)).1 (h 0 (by omega)).2
  rcases c0 with ⟨c, _⟩ | ⟨c, _⟩
  · exact turn_pos ht n a b c h
  · have := turn_pos ht n (-a) (-b) (by grind) fun i hi => by
      obtain ⟨h1, h2⟩ := h i hi
      rw [sq_neg, sq_neg]
      refine ⟨fun z => h2 (up_neg.mp z), fun z => h1 ?_⟩
      have z' := up_neg.mpr z
      rw [Rat.neg_neg, Rat.neg_neg] at z'
      exact z'
    rw [fm_neg] at this
    have e : -a * -a = a * a := by grind
    rw [e] at this
    exact this
theorem turns {t a b E : Rat} {N : Nat} (ht : 5 / 2 ≤ t) (E0 : 0 < E) (hF : 1 ≤ Fm t a b * E ∨ 1 ≤ -Fm t a b * E) (hN : t * (a * a) * E < pw 2 N) :
    ∃ i, i ≤ N + 1 ∧ (Up (sq t a b i) (sq t a b (i + 1)) ∨ Down (sq t a b i) (sq t a b (i + 1))) := by
  refine Classical.byContradiction fun no => ?_
  obtain ⟨q1, q2⟩ := turn_gen ht N a b fun i hi => ⟨fun z => no ⟨i, hi, .inl z⟩, fun z => no ⟨i, hi, .inr z⟩⟩
  have p := pw_pos (c := 2) (by decide) N
  have w1 := mul_le q1 (Rat.le_of_lt E0)
  have w2 := mul_le q2 (Rat.le_of_lt E0)
  generalize pw 2 N = P at *
  generalize Fm t a b = F at *
  rcases hF with hF | hF
  · have := mul_le hF (Rat.le_of_lt p)
    grind
  · have := mul_le hF (Rat.le_of_lt p)
    grind
theorem beyondW {t a b W V : Rat} {k : Nat} (ht : 5 / 2 ≤ t) (W0 : 0 ≤ W) (hb1 : 1 ≤ W * (b * b)) (hu : Up a b) (V0 : 0 ≤ V) (hk : V * V * W < pw 2 k) : ∀ j, k ≤ j → V < sq t a b (j + 1) := fun j hj => by
  obtain ⟨h0, h1⟩ := hu
  have hb : 0 ≤ b := by grind
  have g := (grow ht k a b h0 h1).2.2
  have mono : ∀ d, sq t a b (k + 1) ≤ sq t a b (k + d + 1) := fun d => by
    induction d with
    | zero => exact Rat.le_refl
    | succ d ih =>
      have := (grow ht (k + d + 1) a b h0 h1).2.1
      rw [show k + (d + 1) + 1 = k + d + 1 + 1 by omega]
      grind
  have mj := mono (j - k)
  rw [show k + (j - k) + 1 = j + 1 by omega] at mj
  suffices V < pw (3 / 2) k * b by grind
  have p := pw_pos (c := 3 / 2) (by grind) k
  refine Classical.byContradiction fun n => ?_
  have n' : pw (3 / 2) k * b ≤ V := Rat.not_lt.mp n
  have pb := Rat.mul_nonneg (Rat.le_of_lt p) hb
  have s1 := mul_le n' pb
  have s2 := mul_le n' V0
  have e := pw_sq (3 / 2) k
  have bb := Rat.mul_nonneg hb hb
  have le := mul_le ((pw_le (c := 2) (d := 3 / 2 * (3 / 2)) (by grind) (by grind) k).2) bb
  have p2 := pw_pos (c := 2) (by decide) k
  have fin1 := mul_le hb1 (Rat.le_of_lt p2)
  have s3 : pw (3 / 2 * (3 / 2)) k * (b * b) ≤ V * V := by
    rw [← e]
    grind
  have s4 : pw 2 k * (b * b) ≤ V * V := by grind
  have s5 := mul_le s4 W0
  grind
theorem beyond {t a b E V : Rat} {k : Nat} (ht : 5 / 2 ≤ t) (E0 : 0 < E) (hF : 1 ≤ Fm t a b * E ∨ 1 ≤ -Fm t a b * E) (hu : Up a b) (V0 : 0 ≤ V) (hk : V * V * (t * E) < pw 2 k) : ∀ j, k ≤ j → V < sq t a b (j + 1) := by
  have h0 := hu.1
  have h1 := hu.2
  have hb : 0 ≤ b := by grind
  obtain ⟨q1, q2⟩ := ft_pos (t := t) (a := b) (b := a) ht h0 h1
  have sw : Fm t b a = Fm t a b := by unfold Fm; grind
  rw [sw] at q1 q2
  have tE : 0 ≤ t * E := Rat.mul_nonneg (by grind) (Rat.le_of_lt E0)
  refine beyondW ht tE ?_ hu V0 hk
  have w1 := mul_le q1 (Rat.le_of_lt E0)
  have w2 := mul_le q2 (Rat.le_of_lt E0)
  rcases hF with hF | hF
  · grind
  · grind

end C
end PG

set_option maxRecDepth 100000
set_option maxHeartbeats 4000000

namespace PG
namespace C
open PySem PySem.Spec PyProof.Rows L2 RT
theorem nat_cast_le {n m : Nat} (h : n ≤ m) : (n : Rat) ≤ (m : Rat) := Rat.natCast_le_natCast.mpr h
theorem in_abs {D V : Nat} {q : Rat} (hD : 0 < D) (h : In D V q) : q ≤ (V : Rat) ∧ -(V : Rat) ≤ q := by
  obtain ⟨n, h1, h2⟩ := h
  have d0 : (0 : Rat) < (D : Rat) := Rat.natCast_pos.mpr hD
  have e1 : n ≤ ((V * D : Nat) : Int) := by omega
  have e2 : -((V * D : Nat) : Int) ≤ n := by omega
  have c1 : (n : Rat) ≤ (((V * D : Nat) : Int) : Rat) := Rat.intCast_le_intCast.mpr e1
  have c2 : ((-((V * D : Nat) : Int) : Int) : Rat) ≤ (n : Rat) := Rat.intCast_le_intCast.mpr e2
  have cc : (((V * D : Nat) : Int) : Rat) = (V : Rat) * (D : Rat) := by
    rw [Rat.intCast_natCast, Rat.natCast_mul]
  rw [Rat.intCast_neg, cc] at c2
  rw [cc] at c1
  refine ⟨?_, ?_⟩
  · refine Classical.byContradiction fun no => ?_
    have := Rat.mul_pos (show 0 < q - (V : Rat) by grind) d0
    grind
  · refine Classical.byContradiction fun no => ?_
    have := Rat.mul_pos (show 0 < -(V : Rat) - q by grind) d0
    grind
theorem int_one {n : Int} (h : n ≠ 0) : (1 : Rat) ≤ (n : Rat) ∨ (1 : Rat) ≤ -(n : Rat) := by
  rcases Int.lt_or_gt_of_ne h with c | c
  · right
    have := Rat.intCast_le_intCast.mpr (show (1 : Int) ≤ -n by omega)
    rw [Rat.intCast_neg] at this
    exact this
  · left
    exact Rat.intCast_le_intCast.mpr (show (1 : Int) ≤ n by omega)
theorem fm_int {D V q0 : Nat} {t a b : Rat} {p : Int} (ht : t * (q0 : Rat) = (p : Rat)) (ha : In D V a) (hb : In D V b) (h0 : Fm t a b ≠ 0) (hD : 0 < D) (hq : 0 < q0) :
    1 ≤ Fm t a b * ((D : Rat) * (D : Rat) * (q0 : Rat)) ∨ 1 ≤ -Fm t a b * ((D : Rat) * (D : Rat) * (q0 : Rat)) := by
  obtain ⟨x, x1, _⟩ := ha
  obtain ⟨y, y1, _⟩ := hb
  have d0 : (0 : Rat) < (D : Rat) := Rat.natCast_pos.mpr hD
  have d1 : (0 : Rat) < (q0 : Rat) := Rat.natCast_pos.mpr hq
  have e : Fm t a b * ((D : Rat) * (D : Rat) * (q0 : Rat)) = ((x * x * q0 - p * x * y + y * y * q0 : Int) : Rat) := by
    rw [Rat.intCast_add, Rat.intCast_sub, Rat.intCast_mul, Rat.intCast_mul, Rat.intCast_mul, Rat.intCast_mul, Rat.intCast_mul, Rat.intCast_mul, Rat.intCast_natCast, ← x1, ← y1, ← ht]
    unfold Fm
    grind
  have n0 : (x * x * q0 - p * x * y + y * y * q0 : Int) ≠ 0 := fun z => by
    rw [z] at e
    have e : Fm t a b * ((D : Rat) * (D : Rat) * (q0 : Rat)) = 0 := e
    rcases Rat.mul_eq_zero.mp e with h | h
    · exact h0 h
    · rcases Rat.mul_eq_zero.mp h with h | h
      · rcases Rat.mul_eq_zero.mp h with h | h <;> grind
      · grind
  rw [show -Fm t a b * ((D : Rat) * (D : Rat) * (q0 : Rat)) = -(Fm t a b * ((D : Rat) * (D : Rat) * (q0 : Rat))) by grind, e]
  exact int_one n0
structure Nums (D V q0 T N : Nat) (t a b β : Rat) : Prop where
  D0 : 0 < D
  q0' : 0 < q0
  a : In D V a
  b : In D V b
  β : In D V β
  t1 : t ≤ (T : Rat)
  t2 : -(T : Rat) ≤ t
  tp : ∃ p : Int, t * (q0 : Rat) = (p : Rat)
  T1 : 1 ≤ T
  big : V * V * (T * (D * D * q0)) < 2 ^ N
section
variable {D V q0 T N : Nat} {t a b β : Rat}
theorem sq_le_sq {x v : Rat} (h1 : x ≤ v) (h2 : -v ≤ x) : x * x ≤ v * v := by
  have := Rat.mul_nonneg (show 0 ≤ v - x by grind) (show 0 ≤ v + x by grind)
  grind
theorem Nums.bg (n : Nums D V q0 T N t a b β) : (V : Rat) * V * ((T : Rat) * ((D : Rat) * D * q0)) < pw 2 N := by
  rw [pw_two]
  have := Rat.natCast_lt_natCast.mpr n.big
  rw [Rat.natCast_mul, Rat.natCast_mul, Rat.natCast_mul, Rat.natCast_mul, Rat.natCast_mul] at this
  exact this
theorem Nums.pos (n : Nums D V q0 T N t a b β) : (0 : Rat) < (D : Rat) ∧ (0 : Rat) < (q0 : Rat) ∧ (0 : Rat) ≤ (V : Rat) ∧ (1 : Rat) ≤ (T : Rat) :=
  ⟨Rat.natCast_pos.mpr n.D0, Rat.natCast_pos.mpr n.q0', by have := nat_cast_le (Nat.zero_le V); exact this, by have := nat_cast_le n.T1; exact this⟩
theorem Nums.dd (n : Nums D V q0 T N t a b β) : (1 : Rat) ≤ (D : Rat) ∧ (1 : Rat) ≤ (q0 : Rat) := ⟨nat_cast_le n.D0, nat_cast_le n.q0'⟩
theorem Nums.small (n : Nums D V q0 T N t a b β) {x : Rat} (hx : In D V x) {c : Rat} (c0 : 0 ≤ c) (c1 : c ≤ (T : Rat)) : c * (x * x) * ((D : Rat) * D * q0) < pw 2 N := by
  obtain ⟨h1, h2⟩ := in_abs n.D0 hx
  have s := sq_le_sq h1 h2
  obtain ⟨d0, q0p, v0, t1⟩ := n.pos
  have E0 : (0 : Rat) ≤ (D : Rat) * D * q0 := Rat.mul_nonneg (Rat.mul_nonneg (Rat.le_of_lt d0) (Rat.le_of_lt d0)) (Rat.le_of_lt q0p)
  have g := n.bg
  have m1 := mul_le s c0
  have m2 := mul_le c1 (Rat.mul_nonneg v0 v0)
  generalize (D : Rat) * D * q0 = E at *
  have m3 := mul_le (show c * (x * x) ≤ (T : Rat) * ((V : Rat) * V) by grind) E0
  grind
theorem Nums.fm (n : Nums D V q0 T N t a b β) (h : Fm t a b ≠ 0) : 1 ≤ Fm t a b * ((D : Rat) * D * q0) ∨ 1 ≤ -Fm t a b * ((D : Rat) * D * q0) := by
  obtain ⟨p, hp⟩ := n.tp
  exact fm_int hp n.a n.b h n.D0 n.q0'
theorem Nums.turn (n : Nums D V q0 T N t a b β) (ht : 5 / 2 ≤ t) (h : Fm t a b ≠ 0) : ∃ i, i ≤ N + 1 ∧ (Up (sq t a b i) (sq t a b (i + 1)) ∨ Down (sq t a b i) (sq t a b (i + 1))) := by
  obtain ⟨d0, q0p, v0, t1⟩ := n.pos
  have E0 : (0 : Rat) < (D : Rat) * D * q0 := Rat.mul_pos (Rat.mul_pos d0 d0) q0p
  exact turns ht E0 (n.fm h) (n.small n.a (by grind) n.t1)
theorem Nums.far (n : Nums D V q0 T N t a b β) (ht : 5 / 2 ≤ t) (h : Fm t a b ≠ 0) {i : Nat} (hu : Up (C.sq t a b i) (C.sq t a b (i + 1))) : ∀ j, i + 1 + N ≤ j → (V : Rat) < C.sq t a b j := fun j hj => by
  obtain ⟨d0, q0p, v0, t1⟩ := n.pos
  have E0 : (0 : Rat) < (D : Rat) * D * q0 := Rat.mul_pos (Rat.mul_pos d0 d0) q0p
  have f := n.fm h
  rw [← fm_sq t i] at f
  have tb : (V : Rat) * V * (t * ((D : Rat) * D * q0)) < pw 2 N := by
    have g := n.bg
    have m := mul_le n.t1 (show (0 : Rat) ≤ (V : Rat) * V * ((D : Rat) * D * q0) by
      exact Rat.mul_nonneg (Rat.mul_nonneg v0 v0) (Rat.le_of_lt E0))
    grind
  have := beyond ht E0 f hu v0 tb (j - i - 1) (by omega)
  rw [sq_shift, show i + (j - i - 1 + 1) = j by omega] at this
  exact this
end
end C
end PG

set_option maxRecDepth 100000
set_option maxHeartbeats 4000000

namespace PG
namespace C
open PySem PySem.Spec PyProof.Rows L2 RT
theorem det_id : det idM = 1 := by
  unfold det idM
  decide +kernel
theorem two_ne' : (2 : Int) ≠ 0 := by decide
def rep (es : List El) (k : Nat) : List El := (List.replicate k es).flatten
theorem rep_zero (es : List El) : rep es 0 = [] := rfl
theorem rep_succ (es : List El) (k : Nat) : rep es (k + 1) = es ++ rep es k := by
  unfold rep
  rw [List.replicate_succ, List.flatten_cons]
theorem rep_add (es : List El) : ∀ a b, rep es (a + b) = rep es a ++ rep es b
  | 0, b => by rw [Nat.zero_add]; rfl
  | a + 1, b => by
    rw [show a + 1 + b = (a + b) + 1 by omega, rep_succ, rep_succ, rep_add es a b, List.append_assoc]
theorem rep_one (es : List El) : rep es 1 = es := by
  rw [rep_succ, rep_zero, List.append_nil]
theorem rep_last (es : List El) (k : Nat) : rep es (k + 1) = rep es k ++ es := by
  rw [rep_add, rep_one]
theorem rep_len (es : List El) : ∀ k, (rep es k).length = k * es.length
  | 0 => by rw [Nat.zero_mul]; rfl
  | k + 1 => by rw [rep_succ, List.length_append, rep_len es k, Nat.add_mul, Nat.one_mul, Nat.add_comm]
theorem rep_mem {es : List El} {k : Nat} {e : El} (h : e ∈ rep es k) : e ∈ es := by
  induction k with
  | zero => exact nomatch h
  | succ k ih =>
    rw [rep_succ] at h
    rcases List.mem_append.mp h with h | h
    · exact h
    · exact ih h
theorem inv_unique {x y : Mp} (hx : det x = 1) (h : comp x y = idM) : y = invM x := by
  have e : comp (invM x) (comp x y) = comp (invM x) idM := by rw [h]
  rw [← comp_assoc, inv_comp hx, comp_id, id_comp] at e
  exact e
theorem inv_of_comp {x y : Mp} (hx : det x = 1) (hy : det y = 1) : invM (comp x y) = comp (invM y) (invM x) := by
  symm
  refine inv_unique (by rw [det_comp, hx, hy]; decide +kernel) ?_
  rw [comp_assoc, ← comp_assoc y, comp_inv hy, comp_id, comp_inv hx]
theorem inv_inv {x : Mp} (hx : det x = 1) : invM (invM x) = x := by
  symm
  refine inv_unique (B.det_inv hx) ?_
  exact inv_comp hx
def pwM (m : Mp) : Nat → Mp
  | 0 => idM
  | k + 1 => comp m (pwM m k)
theorem pwM_add (m : Mp) : ∀ a b, pwM m (a + b) = comp (pwM m a) (pwM m b)
  | 0, b => by rw [Nat.zero_add]; exact (comp_id _).symm
  | a + 1, b => by
    rw [show a + 1 + b = (a + b) + 1 by omega]
    show comp m (pwM m (a + b)) = comp (comp m (pwM m a)) (pwM m b)
    rw [pwM_add m a b, comp_assoc]
theorem pwM_one (m : Mp) : pwM m 1 = m := id_comp m
theorem pwM_inv {es : List El} (h : ∀ e ∈ es, ElOk e) : ∀ k, pwM (invM (transfer es)) k = invM (transfer (rep es k))
  | 0 => by
    rw [rep_zero]
    exact inv_unique (x := idM) det_id (comp_id idM)
  | k + 1 => by
    rw [rep_last, transfer_append, inv_of_comp (det_transfer fun e he => h e (rep_mem he)) (det_transfer h), ← pwM_inv h k]
    rfl
section
variable {st : List Cell} {Q : Vl → List Cell → Prop}
theorem power_ok {m : Mp} {N z : Nat} (hz : ∀ k, k ≤ 2 * N → MZ z (pwM m k)) (hn : z ≤ 1000000) (h : Q (.d (mpD (pwM m N))) st) : sp_power_of [.d (mpD m), .d (.int (N : Int))] st Q := by
  unfold sp_power_of
  refine ⟨rfl, ?_⟩
  let S : Nat → Mp → Mp → M := fun n f s => ⟨[some (.d (mpD m)), some (.d (.int (n : Int))), some (.d (mpD f)), some (.d (mpD s))], st⟩
  refine seq_to ⟨[some (.d (mpD m)), some (.d (.int (N : Int))), some (.d (mpD idM)), none], st⟩ (fun K hK => hK) ?_
  refine seq_to (S N idM m) (fun K hK => hK) ?_
  refine seq_mid (fun mm => ∃ s, mm = S 0 (pwM m N) s) (fun K hK => ?_) ?_
  · refine ⟨fun k mm => ∃ a i, a + k * 2 ^ i = N ∧ mm = S k (pwM m a) (pwM m (2 ^ i)), ⟨N, 0, 0, by omega, by
      show S N idM m = S N (pwM m 0) (pwM m (2 ^ 0))
      rw [Nat.pow_zero, pwM_one]
      rfl⟩, ?_⟩
    rintro k _ ⟨a, i, e, rfl⟩
    refine ⟨trivial, ?_⟩
    show if decide ((0 : Int) < (k : Int)) = true then _ else _
    refine ifd (fun c => ?_) fun c => ?_
    · have k0 : 0 < k := by omega
      have pw : 2 ^ i ≤ N := by
        have : 1 * 2 ^ i ≤ k * 2 ^ i := Nat.mul_le_mul_right _ k0
        omega
      have aN : a ≤ N := by omega
      have e2 : 2 ^ (i + 1) = 2 ^ i + 2 ^ i := by rw [Nat.pow_succ]; omega
      have hs := hz (2 ^ i) (by omega)
      refine seq_mid (fun mm => ∃ b, b + k / 2 * 2 ^ (i + 1) = N ∧ mm = S k (pwM m b) (pwM m (2 ^ i))) (fun K2 hK2 => ?_) ?_
      · refine ⟨two_ne', rfl, rfl, ?_⟩
        show if eqD (.int ((k : Int).fmod 2)) (.int 1) = true then _ else _
        rw [eqD_int]
        have fm : (k : Int).fmod 2 = ((k % 2 : Nat) : Int) := by
          rw [Int.fmod_eq_emod_of_nonneg _ (by decide), Int.natCast_emod]
          rfl
        rw [fm]
        have kd := Nat.div_add_mod k 2
        have ek : k * 2 ^ i = k / 2 * 2 ^ (i + 1) + k % 2 * 2 ^ i := by
          have : k * 2 ^ i = (2 * (k / 2) + k % 2) * 2 ^ i := by rw [kd]
          rw [this, Nat.add_mul, Nat.pow_succ, Nat.mul_comm 2 (k / 2), Nat.mul_assoc, Nat.mul_comm 2]
        refine ifd (fun c1 => ?_) fun c1 => hK2 _ ⟨a, ?_, rfl⟩
        · have k1 : k % 2 = 1 := by omega
          refine compose_ok (hz a (by omega)) hs hn ?_
          rw [← pwM_add]
          refine hK2 _ ⟨a + 2 ^ i, ?_, rfl⟩
          rw [k1, Nat.one_mul] at ek
          omega
        · have k1 : k % 2 = 0 := by omega
          rw [k1, Nat.zero_mul] at ek
          omega
      rintro _ ⟨b, eb, rfl⟩
      refine seq_to (S k (pwM m b) (pwM m (2 ^ (i + 1)))) (fun K2 hK2 => compose_ok hs hs hn ?_) ?_
      · rw [← pwM_add, ← e2]
        exact hK2
      · refine ⟨⟨by decide, by decide⟩, k / 2, by omega, b, i + 1, eb, ?_⟩
        show M.mk [_, some (.d (.int ((k : Int) / 2))), _, _] st = _
        rw [show (k : Int) / 2 = ((k / 2 : Nat) : Int) by omega]
    · have k0 : k = 0 := by omega
      subst k0
      rw [Nat.zero_mul, Nat.add_zero] at e
      exact hK _ ⟨_, by rw [e]⟩
  rintro _ ⟨s, rfl⟩
  exact tk h
end
theorem planesOf_app : ∀ (xs ys : List El) (k : Nat) (m : Mp), planesOf k m (xs ++ ys) = planesOf k m xs ++ planesOf (k + xs.length) (comp m (transfer xs)) ys
  | [], ys, k, m => by
    show planesOf k m ys = planesOf (k + 0) (comp m (transfer [])) ys
    rw [Nat.add_zero, show transfer [] = idM from rfl, id_comp]
  | e :: xs, ys, k, m => by
    show edgesAt k e m ++ planesOf (k + 1) (comp m (elM e)) (xs ++ ys) = (edgesAt k e m ++ planesOf (k + 1) (comp m (elM e)) xs) ++ _
    rw [planesOf_app xs ys, transfer_cons, ← comp_assoc, List.append_assoc, List.length_cons, show k + 1 + xs.length = k + (xs.length + 1) by omega]
theorem edgesAt_idx {k : Nat} {e : El} {m : Mp} {x : Ed × Hp3} (h : x ∈ edgesAt k e m) : x.1.1 = k := by
  cases e with
  | stop lo hi =>
    rcases List.mem_append.mp (show x ∈ lowE k lo m ++ uppE k hi m from h) with h | h
    · cases lo with
      | none => exact nomatch h
      | some q => rw [List.mem_singleton.mp h]
    · cases hi with
      | none => exact nomatch h
      | some q => rw [List.mem_singleton.mp h]
  | _ => exact nomatch h
theorem planesOf_idx : ∀ (xs : List El) (k : Nat) (m : Mp) (x : Ed × Hp3), x ∈ planesOf k m xs → k ≤ x.1.1 ∧ x.1.1 < k + xs.length
  | [], k, m, x, h => nomatch h
  | e :: xs, k, m, x, h => by
    rcases List.mem_append.mp (show x ∈ edgesAt k e m ++ planesOf (k + 1) (comp m (elM e)) xs from h) with h | h
    · have := edgesAt_idx h
      rw [List.length_cons]
      omega
    · have := planesOf_idx xs _ _ x h
      rw [List.length_cons]
      omega
theorem mapH_mk {M : Mp} (hM : det M = 1) {p q r : Rat} (h0 : ¬ (p = 0 ∧ q = 0)) : B.mapH M (mkH p q r) = mkH (p * M.a + q * M.c) (p * M.b + q * M.d) (r - (p * M.e + q * M.f)) := by
  have h1 : ¬ (p * M.a + q * M.c = 0 ∧ p * M.b + q * M.d = 0) := fun ⟨e1, e2⟩ => by
    unfold det at hM
    refine h0 ⟨?_, ?_⟩
    · have : p * (M.a * M.d - M.b * M.c) = 0 := by grind
      rw [hM] at this
      grind
    · have : q * (M.a * M.d - M.b * M.c) = 0 := by grind
      rw [hM] at this
      grind
  obtain ⟨t, t0, a1, a2, a3⟩ := mkH_spec (r := r) h0
  obtain ⟨u, u0, b1, b2, b3⟩ := mkH_spec (r := r - (p * M.e + q * M.f)) h1
  obtain ⟨pm, s, s0, c1, c2, c3⟩ := B.mapH_spec hM (mkH_dir (r := r) h0)
  rw [a1, a2] at c1 c2
  rw [a1, a2, a3] at c3
  refine B.prop_eq pm ⟨mkH_dir h1, mkH_prim h1⟩ u0 (Rat.mul_pos s0 t0) ?_ ?_ ?_
  · rw [c1, b1]
    grind
  · rw [c2, b2]
    grind
  · rw [c3, b3]
    grind
theorem nz_neg {m : Mp} (h : ¬ (m.a = 0 ∧ m.b = 0)) : ¬ (-m.a = 0 ∧ -m.b = 0) := fun ⟨a, b⟩ => h ⟨by grind, by grind⟩
theorem edgesAt_map {M m : Mp} (hM : det M = 1) (hm : det m = 1) (k j : Nat) (e : El) : (edgesAt k e (comp M m)).map (·.2) = ((edgesAt j e m).map (·.2)).map (B.mapH M) := by
  have nz := nz_of_det hm
  cases e with
  | stop lo hi =>
    show (lowE k lo (comp M m) ++ uppE k hi (comp M m)).map (·.2) = ((lowE j lo m ++ uppE j hi m).map (·.2)).map (B.mapH M)
    rw [List.map_append, List.map_append, List.map_append]
    congr 1
    · cases lo with
      | none => rfl
      | some q =>
        show [mkH (-(comp M m).a) (-(comp M m).b) ((comp M m).e - q)] = [B.mapH M (mkH (-m.a) (-m.b) (m.e - q))]
        rw [mapH_mk hM (nz_neg nz)]
        congr 2 <;> (unfold comp; dsimp only; grind)
    · cases hi with
      | none => rfl
      | some q =>
        show [mkH (comp M m).a (comp M m).b (q - (comp M m).e)] = [B.mapH M (mkH m.a m.b (q - m.e))]
        rw [mapH_mk hM nz]
        congr 2 <;> (unfold comp; dsimp only; grind)
  | _ => rfl
theorem planesOf_map {M : Mp} (hM : det M = 1) : ∀ (es : List El) (k j : Nat) (m : Mp), (∀ e ∈ es, ElOk e) → det m = 1 → (planesOf k (comp M m) es).map (·.2) = ((planesOf j m es).map (·.2)).map (B.mapH M)
  | [], _, _, _, _, _ => rfl
  | e :: es, k, j, m, he, hm => by
    show (edgesAt k e (comp M m) ++ planesOf (k + 1) (comp (comp M m) (elM e)) es).map (·.2) = ((edgesAt j e m ++ planesOf (j + 1) (comp m (elM e)) es).map (·.2)).map (B.mapH M)
    rw [List.map_append, List.map_append, List.map_append, edgesAt_map hM hm k j, comp_assoc, planesOf_map hM es (k + 1) (j + 1) (comp m (elM e)) (fun e h => he e (List.mem_cons_of_mem _ h)) (by
      rw [det_comp, hm, det_el (he e List.mem_cons_self)]
      decide +kernel)]
def hpl (es : List El) : List Hp3 := (planesOf 0 idM es).map (·.2)
def hpT (es : List El) (k : Nat) : List Hp3 := (hpl es).map (B.mapH (transfer (rep es k)))
def ways (es : List El) : Nat → List Hp3
  | 0 => []
  | n + 1 => ways es n ++ hpT es n
theorem hpT_eq {es : List El} (he : ∀ e ∈ es, ElOk e) (k : Nat) : hpT es k = (planesOf (k * es.length) (transfer (rep es k)) es).map (·.2) := by
  have dt := det_transfer (es := rep es k) fun e h => he e (rep_mem h)
  have := planesOf_map dt es (k * es.length) 0 idM he det_id
  rw [id_comp] at this
  exact this.symm
theorem hpl_rep {es : List El} (he : ∀ e ∈ es, ElOk e) (k : Nat) : planesOf 0 idM (rep es (k + 1)) = planesOf 0 idM (rep es k) ++ planesOf (k * es.length) (transfer (rep es k)) es := by
  rw [rep_last, planesOf_app, rep_len, Nat.zero_add, comp_id]
theorem hpT_mem {es : List El} (he : ∀ e ∈ es, ElOk e) {k : Nat} {g : Hp3} (h : g ∈ hpT es k) : ∃ x ∈ planesOf 0 idM (rep es (k + 1)), x.2 = g := by
  rw [hpT_eq he] at h
  obtain ⟨x, hx, e⟩ := List.mem_map.mp h
  exact ⟨x, by rw [hpl_rep he]; exact List.mem_append_right _ hx, e⟩
theorem ways_mem {es : List El} {n : Nat} {g : Hp3} (h : g ∈ ways es n) : ∃ k, k < n ∧ g ∈ hpT es k := by
  induction n with
  | zero => exact nomatch h
  | succ n ih =>
    rcases List.mem_append.mp (show g ∈ ways es n ++ hpT es n from h) with h | h
    · obtain ⟨k, hk, hg⟩ := ih h
      exact ⟨k, by omega, hg⟩
    · exact ⟨n, by omega, h⟩
theorem hpl_len (es : List El) : (hpl es).length ≤ 2 * es.length := by
  unfold hpl
  rw [List.length_map]
  have go : ∀ (es : List El) (k : Nat) (m : Mp), (planesOf k m es).length ≤ 2 * es.length := fun es => by
    induction es with
    | nil => intro k m; exact Nat.le_refl _
    | cons e es ih =>
      intro k m
      show (edgesAt k e m ++ planesOf (k + 1) (comp m (elM e)) es).length ≤ _
      have a := edgesAt_len k e m
      have b := ih (k + 1) (comp m (elM e))
      rw [List.length_append, List.length_cons]
      omega
  exact go es 0 idM
theorem ways_len (es : List El) : ∀ n, (ways es n).length ≤ n * (2 * es.length)
  | 0 => by rw [Nat.zero_mul]; exact Nat.le_refl _
  | n + 1 => by
    show (ways es n ++ hpT es n).length ≤ _
    have a := ways_len es n
    have b := hpl_len es
    unfold hpT
    rw [List.length_append, List.length_map, Nat.add_mul, Nat.one_mul]
    omega
end C
end PG

set_option maxRecDepth 100000
set_option maxHeartbeats 4000000

namespace PG
namespace C
open PySem PySem.Spec PyProof.Rows L2 RT
theorem bAll_mk {ds : List Dt} {bs : List Bool} {P : Dt → Prop} (e : blsD ds = some bs) (h : P (.bl (bs.all id))) : bAll [.lst ds] P := by
  unfold bAll
  simp only [e]
  exact h
structure Rp (z : Nat) (es : List El) (n : Nat) : Prop where
  el : ∀ e ∈ es, ElIn e
  len : (n + 1) * es.length ≤ 200
  z0 : 12 + 10 * ((n + 1) * es.length) ≤ z
section
variable {st : List Cell} {Q : Vl → List Cell → Prop} {es : List El} {z n : Nat}
theorem Rp.ok (R : Rp z es n) : ∀ e ∈ es, ElOk e := fun e h => (R.el e h).ok
theorem Rp.le (R : Rp z es n) {k : Nat} (hk : k ≤ n) : Rp z es k := by
  have : (k + 1) * es.length ≤ (n + 1) * es.length := Nat.mul_le_mul_right _ (by omega)
  exact ⟨R.el, by have := R.len; omega, by have := R.z0; omega⟩
theorem Rp.tz (R : Rp z es n) {k : Nat} (hk : k ≤ n + 1) : Tz z (rep es k) := by
  have : k * es.length ≤ (n + 1) * es.length := Nat.mul_le_mul_right _ hk
  have T := tz_in (es := rep es k) (j := (n + 1) * es.length) (fun e h => R.el e (rep_mem h)) (by rw [rep_len]; omega)
  exact T.le R.z0
theorem Rp.mz (R : Rp z es n) {k : Nat} (hk : k ≤ n + 1) : MZ z (transfer (rep es k)) := (R.tz hk).all
theorem Rp.dt (R : Rp z es n) (k : Nat) : det (transfer (rep es k)) = 1 := det_transfer fun e h => R.ok e (rep_mem h)
theorem Rp.hz (R : Rp z es n) {k : Nat} (hk : k ≤ n) : ∀ g ∈ hpT es k, HZ z g ∧ Dir g ∧ gcd3 g.p g.q g.r = 1 := fun g hg => by
  obtain ⟨x, hx, rfl⟩ := hpT_mem R.ok hg
  have el : ∀ e ∈ rep es (k + 1), ElIn e := fun e h => R.el e (rep_mem h)
  have h1 : (k + 1) * es.length ≤ (n + 1) * es.length := Nat.mul_le_mul_right _ (by omega)
  have a := planes_z (es := rep es (k + 1)) (j := (n + 1) * es.length) (fun e h => (el e h).w) (by rw [rep_len]; omega) x hx
  have b := planes_dir (es := rep es (k + 1)) (fun e h => (el e h).ok) x hx
  have := R.z0
  exact ⟨B.HZ.le a (by omega), b⟩
theorem Rp.hzw (R : Rp z es n) {k : Nat} (hk : k ≤ n + 1) : ∀ g ∈ ways es k, HZ z g ∧ Dir g ∧ gcd3 g.p g.q g.r = 1 := fun g hg => by
  obtain ⟨j, hj, hg⟩ := ways_mem hg
  exact R.hz (by omega) g hg
theorem hpT_zero (es : List El) (he : ∀ e ∈ es, ElOk e) : hpT es 0 = hpl es := by
  rw [hpT_eq he, Nat.zero_mul]
  rfl
theorem turned_ok (R : Rp z es n) (hz : z ≤ 2000) {k : Nat} (hk : k ≤ n) (h : Q (.d (.lst ((hpT es k).map hpD))) st) :
    sp_map_half_planes [.d (mpD (invM (transfer (rep es k)))), .d (.lst ((hpl es).map hpD))] st Q := by
  have m := R.mz (k := k) (by omega)
  have h0 := R.hz (k := 0) (by omega)
  rw [hpT_zero es R.ok] at h0
  have hl := hpl_len es
  have := R.len
  have e1 : es.length ≤ (n + 1) * es.length := Nat.le_mul_of_pos_left _ (by omega)
  refine B.mapped_ok (n := 4 * z) (B.det_inv (R.dt k)) (fun g hg => (h0 g hg).2.1) (fun g hg => B.HZ.le (h0 g hg).1 (by omega)) (B.inv_z m) (by omega) (by omega) ?_
  rw [inv_inv (R.dt k)]
  exact h
theorem Rp.pw (R : Rp z es n) {N : Nat} (hN : 2 * N ≤ n + 1) : ∀ k, k ≤ 2 * N → MZ (4 * z) (pwM (invM (transfer es)) k) := fun k hk => by
  rw [pwM_inv R.ok]
  exact B.inv_z (R.mz (by omega))
theorem pass_ok (R : Rp z es n) (hz : z ≤ 2000) {N : Nat} (h1 : N ≤ 1000) (hN : 2 * N ≤ n + 1) (h : Q (.d (.lst ((ways es N).map hpD))) st) : sp_pass_planes [.d (.lst (es.map elD)), .d (.int (N : Int))] st Q := by
  unfold sp_pass_planes
  refine ⟨rfl, ?_⟩
  have T := R.tz (k := 1) (by omega)
  rw [rep_one] at T
  have L := R.len
  have e1 : es.length ≤ (n + 1) * es.length := Nat.le_mul_of_pos_left _ (by omega)
  have e2 : N * (2 * es.length) ≤ (n + 1) * es.length := by
    have : N * (2 * es.length) = 2 * N * es.length := by rw [Nat.mul_left_comm, Nat.mul_assoc]
    rw [this]
    exact Nat.mul_le_mul_right _ hN
  let E : Option Vl := some (.d (.lst (es.map elD)))
  let S : Option Vl → Option Vl → Option Vl → Option Vl → List Cell → M := fun z2 z3 z4 z5 s => ⟨[E, some (.d (.int (N : Int))), z2, z3, z4, z5], s⟩
  let P : Option Vl := some (.d (.lst ((hpl es).map hpD)))
  let I : Option Vl := some (.d (mpD (invM (transfer es))))
  refine seq_to (S P none none none st) (fun K hK => planesof_t T (by omega) (by omega) hK) ?_
  refine seq_to (S P I none none st) (fun K hK => transfer_t T (by omega) (invert_ok T.all (by omega) hK)) ?_
  refine seq_to (S P I (some (.c st.length)) none (st ++ [Cell.lst []])) (fun K hK => ⟨lineN rfl, hK⟩) ?_
  refine seq_mid (fun m => ∃ z5, m = S P I (some (.c st.length)) z5 (st ++ [Cell.lst ((ways es N).map hpD)])) (fun K hK => ?_) ?_
  · refine ⟨⟨by omega, by omega⟩, range_inv (fun k lo m => 0 ≤ lo ∧ lo + k = N ∧ ∃ z5, m = S P I (some (.c st.length)) z5 (st ++ [Cell.lst ((ways es lo.toNat).map hpD)])) ?_ ?_ _ 0 _ ⟨Int.le_refl _, by
      show (0 : Int) + (((N : Int) - 0).toNat : Int) = N
      omega, none, rfl⟩⟩
    · rintro k lo _ K2 hK2 ⟨l0, l1, z5, rfl⟩
      obtain ⟨i, rfl⟩ : ∃ i : Nat, lo = (i : Int) := ⟨lo.toNat, by omega⟩
      rw [Int.toNat_natCast]
      have wl := ways_len es i
      have wl2 : i * (2 * es.length) ≤ N * (2 * es.length) := Nat.mul_le_mul_right _ (by omega)
      have hl := hpl_len es
      refine power_ok (N := i) (z := 4 * z) (R.pw (by omega)) (by omega) ?_
      rw [pwM_inv R.ok]
      refine turned_ok R hz (by omega) ?_
      refine onC_mk (getElem_last _ _) ⟨?_, ?_⟩
      · rw [List.length_map, List.length_map]
        unfold hpT
        rw [List.length_map]
        exact Nat.le_of_lt (small_lt (by omega))
      · refine hK2 _ ⟨by omega, by omega, some (.d (.int (i : Int))), ?_⟩
        show S P I (some (.c st.length)) (some (.d (.int (i : Int)))) ((st ++ [_]).set st.length _) = _
        rw [set_last, ← List.map_append, show ((i : Int) + 1).toNat = i + 1 by omega]
        rfl
    · rintro lo _ ⟨l0, l1, z5, rfl⟩
      exact hK _ ⟨z5, by rw [show lo.toNat = N by omega]⟩
  rintro _ ⟨z5, rfl⟩
  refine Eq.mp (if_neg (Nat.lt_irrefl _)).symm (onC_mk (getElem_last _ _) ?_)
  show Q _ ((st ++ [_]).take st.length)
  rw [List.take_left]
  exact h
def nextB (es : List El) (k : Nat) : Bool := (hpT es k).all (impB (ways es k))
theorem next_ok (R : Rp z es n) (hz : z ≤ 2000) {N : Nat} (h1 : N ≤ 1000) (hN : 2 * N ≤ n) (h45 : N * (2 * es.length) ≤ 45) (h : Q (.d (.bl (nextB es N))) st) : sp_holds_next [.d (.lst (es.map elD)), .d (.int (N : Int))] st Q := by
  unfold sp_holds_next
  refine ⟨rfl, ?_⟩
  have T := R.tz (k := 1) (by omega)
  rw [rep_one] at T
  have L := R.len
  have e1 : es.length ≤ (n + 1) * es.length := Nat.le_mul_of_pos_left _ (by omega)
  have wl := ways_len es N
  have hw := R.hzw (k := N) (by omega)
  let E : Option Vl := some (.d (.lst (es.map elD)))
  let S : Option Vl → Option Vl → M := fun z2 z3 => ⟨[E, some (.d (.int (N : Int))), z2, z3, none], st⟩
  let W : Option Vl := some (.d (.lst ((ways es N).map hpD)))
  refine seq_to (S W none) (fun K hK => pass_ok R hz h1 (by omega) hK) ?_
  cases he : emptyB (ways es N) with
  | true =>
    refine ifs_t' (S W none) (fun K hK => empty_ok (n := z) (fun g hg => (hw g hg).1) (by omega) (by omega) ?_) ?_
    · show K (emptyB (ways es N)) _
      rw [he]
      exact hK
    · refine tk ?_
      rw [show nextB es N = true from List.all_eq_true.mpr fun g _ => by
        unfold impB
        rw [he]
        rfl] at h
      exact h
  | false =>
    refine guard_st (S W none) (fun K hK => empty_ok (n := z) (fun g hg => (hw g hg).1) (by omega) (by omega) ?_) ?_
    · show K (emptyB (ways es N)) _
      rw [he]
      exact hK
    refine seq_to (S W (some (.d (.lst ((hpT es N).map hpD))))) (fun K hK => ?_) ?_
    · refine transfer_t T (by omega) (invert_ok T.all (by omega) (power_ok (N := N) (z := 4 * z) (R.pw (by omega)) (by omega) ?_))
      rw [pwM_inv R.ok]
      exact planesof_t T (by omega) (by omega) (turned_ok R hz (by omega) hK)
    have hl : (hpT es N).length ≤ 400 := by
      unfold hpT
      rw [List.length_map]
      have := hpl_len es
      omega
    have ht := R.hz (k := N) (by omega)
    refine lc_map hpD (fun g => Dt.bl (impB (ways es N) g)) (done := []) (xs := hpT es N) (fun g hg C hC => ?_) (by rw [List.length_nil]; omega) ?_
    · exact implied_ok (n := z) (fun g hg => (hw g hg).2.1) (fun g hg => (hw g hg).1) (ht g hg).1 (by omega) (by omega) (hC _)
    · have bls : blsD ((hpT es N).map fun g => Dt.bl (impB (ways es N) g)) = some ((hpT es N).map (impB (ways es N))) := by
        generalize hpT es N = l
        induction l with
        | nil => rfl
        | cons a r ih =>
          show (blsD (r.map fun g => Dt.bl (impB (ways es N) g))).map (impB (ways es N) a :: ·) = _
          rw [ih]
          rfl
      refine Eq.mp (if_neg Bool.false_ne_true).symm ?_
      rw [List.nil_append]
      refine bAll_mk bls ?_
      rw [show ((hpT es N).map (impB (ways es N))).all id = nextB es N from by
        unfold nextB
        rw [List.all_map]
        rfl]
      exact tk h
def firstN (es : List El) (most : Nat) : Option Nat := (List.range (most + 1)).find? (nextB es)
theorem settled_ok (R : Rp z es n) (hz : z ≤ 2000) {N : Nat} (h1 : N ≤ 1000) (hN : 2 * N ≤ n) (h45 : N * (2 * es.length) ≤ 45) (h : Q (.d (onat (firstN es N))) st) : sp_settled [.d (.lst (es.map elD)), .d (.int (N : Int))] st Q := by
  unfold sp_settled
  refine ⟨rfl, ?_⟩
  let E : Option Vl := some (.d (.lst (es.map elD)))
  let S : Option Vl → M := fun z2 => ⟨[E, some (.d (.int (N : Int))), z2], st⟩
  refine seq_mid (fun m => firstN es N = none ∧ ∃ z2, m = S z2) (fun K hK => ?_) ?_
  · refine ⟨⟨by omega, by omega⟩, range_inv (fun k lo m => 0 ≤ lo ∧ lo + k = N + 1 ∧ (∀ i : Nat, (i : Int) < lo → nextB es i = false) ∧ ∃ z2, m = S z2) ?_ ?_ _ 0 _ ⟨Int.le_refl _, by
      show (0 : Int) + ((((N : Int) + 1) - 0).toNat : Int) = N + 1
      omega, fun i hi => by omega, none, rfl⟩⟩
    · rintro k lo _ K2 hK2 ⟨l0, l1, all, z2, rfl⟩
      obtain ⟨i, rfl⟩ : ∃ i : Nat, lo = (i : Int) := ⟨lo.toNat, by omega⟩
      have hi : i ≤ N := by omega
      have h45i : i * (2 * es.length) ≤ N * (2 * es.length) := Nat.mul_le_mul_right _ hi
      refine next_ok R hz (N := i) (by omega) (by omega) (by omega) ?_
      show if nextB es i = true then _ else _
      cases hb : nextB es i with
      | true =>
        rw [if_pos rfl]
        have : firstN es N = some i := by
          unfold firstN
          have sp : List.range (N + 1) = List.range i ++ (List.range (N + 1 - i)).map (i + ·) := by
            rw [← List.range_add, show i + (N + 1 - i) = N + 1 by omega]
          rw [sp, List.find?_append]
          have n1 : (List.range i).find? (nextB es) = none := by
            rw [List.find?_eq_none]
            intro j hj
            rw [all j (by have := List.mem_range.mp hj; omega)]
            decide
          rw [n1, Option.none_or, show N + 1 - i = (N - i) + 1 by omega, List.range_succ_eq_map, List.map_cons, List.find?_cons, Nat.add_zero, hb]
        rw [this] at h
        exact tk h
      | false =>
        rw [if_neg (by decide)]
        refine hK2 _ ⟨by omega, by omega, fun j hj => ?_, some (.d (.int (i : Int))), rfl⟩
        by_cases e : j = i
        · rw [e]; exact hb
        · exact all j (by omega)
    · rintro lo _ ⟨l0, l1, all, z2, rfl⟩
      refine hK _ ⟨?_, z2, rfl⟩
      unfold firstN
      rw [List.find?_eq_none]
      intro j hj
      rw [all j (by have := List.mem_range.mp hj; omega)]
      decide
  rintro _ ⟨e, z2, rfl⟩
  rw [e] at h
  exact tk h
theorem way_ok (R : Rp z es n) (hz : z ≤ 2000) {N : Nat} (h1 : N ≤ 1000) (hN : N ≤ n + 1) (h : Q (.d (.lst ((ways es N).map hpD))) st) : sp__law_way [.d (.lst (es.map elD)), .d (.int (N : Int))] st Q := by
  unfold sp__law_way
  refine ⟨rfl, ?_⟩
  have L := R.len
  let E : Option Vl := some (.d (.lst (es.map elD)))
  let S : List Hp3 → Option Vl → Option Vl → M := fun acc z3 z4 => ⟨[E, some (.d (.int (N : Int))), some (.c st.length), z3, z4], st ++ [Cell.lst (acc.map hpD)]⟩
  refine seq_to (S [] none none) (fun K hK => ⟨lineN rfl, hK⟩) ?_
  refine seq_mid (fun m => ∃ z3 z4, m = S (ways es N) z3 z4) (fun K hK => ?_) ?_
  · refine ⟨⟨by omega, by omega⟩, range_inv (fun k lo m => 0 ≤ lo ∧ lo + k = N ∧ ∃ z3 z4, m = S (ways es lo.toNat) z3 z4) ?_ ?_ _ 0 _ ⟨Int.le_refl _, by
      show (0 : Int) + (((N : Int) - 0).toNat : Int) = N
      omega, none, none, rfl⟩⟩
    · rintro k lo _ K2 hK2 ⟨l0, l1, z3, z4, rfl⟩
      obtain ⟨i, rfl⟩ : ∃ i : Nat, lo = (i : Int) := ⟨lo.toNat, by omega⟩
      rw [Int.toNat_natCast]
      have T := R.tz (k := i + 1) (by omega)
      have wl := ways_len es i
      have wl2 : i * (2 * es.length) ≤ N * (2 * es.length) := Nat.mul_le_mul_right _ (by omega)
      have wl3 : N * (2 * es.length) ≤ 2 * ((n + 1) * es.length) := by
        have : N * (2 * es.length) = 2 * (N * es.length) := Nat.mul_left_comm _ _ _
        have := Nat.mul_le_mul_right es.length hN
        omega
      have il : (i + 1) * es.length ≤ (n + 1) * es.length := Nat.mul_le_mul_right _ (by omega)
      have hlen : (rep es (i + 1)).length ≤ 1000 := by rw [rep_len]; omega
      let I : Option Vl := some (.d (.int (i : Int)))
      refine ⟨by omega, by omega, ?_, ?_⟩
      · rw [List.length_map, show ((i : Int) + 1).toNat = i + 1 by omega, Nat.mul_comm]
        exact Nat.le_of_lt (small_lt (by omega))
      have er : (List.replicate ((i : Int) + 1).toNat (es.map elD)).flatten = (rep es (i + 1)).map elD := by
        rw [show ((i : Int) + 1).toNat = i + 1 by omega]
        unfold rep
        rw [List.map_flatten, List.map_replicate]
      rw [er]
      refine ledges_t T (by omega) hlen ?_
      -- through the edges
      refine each_inv (lk := none) ehD (fun r m => ∃ done z4, planesOf 0 idM (rep es (i + 1)) = done ++ r ∧ m = S (ways es i ++ (done.filter fun x => decide (i * es.length ≤ x.1.1)).map (·.2)) I z4) (fun _ _ _ => trivial) ?_ ?_ (planesOf 0 idM (rep es (i + 1))) _ ⟨[], z4, rfl, by
        show _ = S (ways es i ++ []) I z4
        rw [List.append_nil]
        rfl⟩
      · rintro x r _ K3 hK3 ⟨done, z4, e1, rfl⟩
        have dl : done.length ≤ 2000 := by
          have a := congrArg List.length e1
          rw [List.length_append] at a
          have b := hpl_len (rep es (i + 1))
          unfold hpl at b
          rw [List.length_map] at b
          omega
        have fl : (done.filter fun x => decide (i * es.length ≤ x.1.1)).length ≤ done.length := List.length_filter_le _ _
        have cnd : ∀ K : Bool → M → Prop, K (decide (i * es.length ≤ x.1.1)) (S (ways es i ++ (done.filter fun x => decide (i * es.length ≤ x.1.1)).map (·.2)) I (some (.d (ehD x)))) → dTest (dOp RT.rGe (dOp RT.rIx (dOp RT.rIx (dVar 4) (dC (.int 0))) (dC (.int 0))) (dOp RT.rMul (dBi bLen (dCons (dVar 0) dNil)) (dVar 3))) (S (ways es i ++ (done.filter fun x => decide (i * es.length ≤ x.1.1)).map (·.2)) I (some (.d (ehD x)))) K := fun K hK => by
          refine ⟨?_, trivial, ?_⟩
          · show (((es.map elD).length : Int)).natAbs.log2 + (i : Int).natAbs.log2 < 67108864
            rw [List.length_map]
            have a := log_le (z := (es.length : Int)) (n := 1000) (b := 10) (by
              have : 1 * es.length ≤ (n + 1) * es.length := Nat.mul_le_mul_right _ (by omega)
              omega) (by decide)
            have b := log_le (z := (i : Int)) (n := 1000) (b := 10) (by omega) (by decide)
            omega
          · show K (decide ((((es.map elD).length : Int)) * (i : Int) ≤ (x.1.1 : Int))) _
            rw [List.length_map, show decide ((es.length : Int) * (i : Int) ≤ (x.1.1 : Int)) = decide (i * es.length ≤ x.1.1) from decide_eq_decide.mpr (by
              rw [Nat.mul_comm i, ← Int.natCast_mul]
              exact Int.ofNat_le)]
            exact hK
        by_cases c : i * es.length ≤ x.1.1
        · refine ifs_t (S (ways es i ++ (done.filter fun x => decide (i * es.length ≤ x.1.1)).map (·.2)) I (some (.d (ehD x)))) (fun K hK => cnd K (by rw [decide_eq_true c]; exact hK)) ?_
          refine append_st (k := st.length) (xs := (ways es i ++ (done.filter fun x => decide (i * es.length ≤ x.1.1)).map (·.2)).map hpD) (hpD x.2) ?_ ?_ (fun C hC => hC) (small_lt (by rw [List.length_map, List.length_append, List.length_map]; omega)) ?_
          · rfl
          · exact getElem_last _ _
          · refine hK3 _ ⟨done ++ [x], some (.d (ehD x)), by rw [e1, List.append_assoc]; rfl, congrArg (M.mk _) ?_⟩
            show (st ++ [_]).set st.length _ = st ++ [_]
            rw [set_last, List.filter_append, List.filter_cons, if_pos (decide_eq_true c), List.filter_nil, List.map_append (l₁ := done.filter _), ← List.append_assoc, List.map_append (l₁ := ways es i ++ _)]
            rfl
        · refine guard_end (fun m => m = S (ways es i ++ (done.filter fun x => decide (i * es.length ≤ x.1.1)).map (·.2)) I (some (.d (ehD x)))) (fun K hK => cnd K (by rw [decide_eq_false c]; exact hK _ rfl)) ?_
          rintro _ rfl
          refine hK3 _ ⟨done ++ [x], some (.d (ehD x)), by rw [e1, List.append_assoc]; rfl, ?_⟩
          rw [List.filter_append, List.filter_cons, if_neg (by rw [decide_eq_false c]; decide), List.filter_nil, List.append_nil]
      · rintro _ ⟨done, z4, e1, rfl⟩
        rw [List.append_nil] at e1
        refine hK2 _ ⟨by omega, by omega, I, z4, ?_⟩
        rw [show ((i : Int) + 1).toNat = i + 1 by omega]
        refine congrArg (fun l => S l I z4) ?_
        show _ = ways es i ++ hpT es i
        congr 1
        rw [← e1, hpl_rep R.ok, List.filter_append, hpT_eq R.ok]
        have f1 : (planesOf 0 idM (rep es i)).filter (fun x => decide (i * es.length ≤ x.1.1)) = [] := by
          rw [List.filter_eq_nil_iff]
          intro x hx
          have := (planesOf_idx _ _ _ x hx).2
          rw [rep_len] at this
          simp only [decide_eq_true_eq]
          omega
        have f2 : (planesOf (i * es.length) (transfer (rep es i)) es).filter (fun x => decide (i * es.length ≤ x.1.1)) = planesOf (i * es.length) (transfer (rep es i)) es := by
          rw [List.filter_eq_self]
          intro x hx
          have := (planesOf_idx _ _ _ x hx).1
          exact decide_eq_true this
        rw [f1, f2, List.nil_append]
    · rintro lo _ ⟨l0, l1, z3, z4, rfl⟩
      exact hK _ ⟨z3, z4, by rw [show lo.toNat = N by omega]⟩
  rintro _ ⟨z3, z4, rfl⟩
  refine Eq.mp (if_neg (Nat.lt_irrefl _)).symm (onC_mk (getElem_last _ _) ?_)
  show Q _ ((st ++ [_]).take st.length)
  rw [List.take_left]
  exact h
end
end C
end PG

set_option maxRecDepth 100000
set_option maxHeartbeats 4000000

namespace PG
namespace B
open PySem PySem.Spec PyProof.Rows L2 RT
section
variable {st : List Cell} {Q : Vl → List Cell → Prop}
end
end B
end PG

set_option maxRecDepth 100000
set_option maxHeartbeats 4000000

namespace PG
namespace B
open PySem PySem.Spec PyProof.Rows L2 RT
def Pq (g : Hp3) : Prop := Pl g ∧ gcd3 g.p g.q g.r = 1
theorem Pq.pm {g : Hp3} (h : Pq g) : Pm g := ⟨h.1.1, h.2⟩
section
variable {ds : List Int} {i k : Nat} {st : List Cell} {Q : Vl → List Cell → Prop}
end
def Sm2 (g : Hp3) : Prop := Pm g ∧ ((g.p.natAbs ≤ 2 ∧ g.q.natAbs ≤ 2 ∧ g.r.natAbs ≤ 6) ∨ (g.q = 0 ∧ g.p.natAbs ≤ 3 ∧ g.r.natAbs ≤ 8) ∨ (g.p = 0 ∧ g.q.natAbs ≤ 3 ∧ g.r.natAbs ≤ 8))
theorem Sm2.hz {g : Hp3} (h : Sm2 g) : HZ 5 g := by
  have a : g.p.natAbs ≤ 8 ∧ g.q.natAbs ≤ 8 ∧ g.r.natAbs ≤ 8 := by
    rcases h.2 with ⟨a, b, c⟩ | ⟨a, b, c⟩ | ⟨a, b, c⟩
    · exact ⟨by omega, by omega, by omega⟩
    · exact ⟨by omega, by omega, by omega⟩
    · exact ⟨by omega, by omega, by omega⟩
  have l : ∀ {n : Nat}, n ≤ 8 → n.log2 ≤ 3 := fun {n} h => lg_le (k := 3) (by omega)
  exact ⟨by have := l a.1; omega, by have := l a.2.1; omega, by have := l a.2.2; omega⟩
def K1 (B : Nat) : Nat := (B + B) * (B + B) + (B + B) * (B + B)

theorem f1 : ¬ ((-1 : Rat) = 0 ∧ (0 : Rat) = 0) := fun c => absurd c.1 (by decide)
theorem f2 : ¬ ((1 : Rat) = 0 ∧ (0 : Rat) = 0) := fun c => absurd c.1 (by decide)
theorem f3 : ¬ ((0 : Rat) = 0 ∧ (-1 : Rat) = 0) := fun c => absurd c.2 (by decide)
end B
end PG

set_option maxRecDepth 100000
set_option maxHeartbeats 4000000

namespace PG
namespace B
open PySem PySem.Spec PyProof.Rows L2 RT
end B
end PG

set_option maxRecDepth 100000
set_option maxHeartbeats 4000000

namespace PG
namespace C
open PySem PySem.Spec PyProof.Rows L2 RT
section
variable {st : List Cell} {Q : Vl → List Cell → Prop}
end
end C
end PG

set_option maxRecDepth 100000
set_option maxHeartbeats 4000000

namespace PG
namespace C
open PySem PySem.Spec PyProof.Rows L2 RT
section
variable {D V q0 T N : Nat} {t a b β : Rat}
end
section
variable {st : List Cell} {Q : Vl → List Cell → Prop} {D V q0 T N : Nat} {t a b β : Rat}
def All (t a b β : Rat) (r : Bool) : Prop := r = true ↔ ∀ j, sq t a b j ≤ β
end
end C
end PG

set_option maxRecDepth 100000
set_option maxHeartbeats 4000000

namespace PG
namespace C
open PySem PySem.Spec PyProof.Rows L2 RT
def upTo (x : Rat) : Int := -((-x.num).fdiv (x.den : Int))
section
variable {st : List Cell} {Q : Vl → List Cell → Prop} {f s h : Rat}
end
end C
end PG

set_option maxRecDepth 100000
set_option maxHeartbeats 4000000

namespace PG
namespace C
open PySem PySem.Spec PyProof.Rows L2 RT
section
variable {st : List Cell} {Q : Vl → List Cell → Prop} {t f s h : Rat}
def mid (t f s h : Rat) : Rat := (h - t * s + f) / (2 - t)
def cyc (t : Rat) : Prop := t = -1 ∨ t = 0 ∨ t = 1
instance (t : Rat) : Decidable (cyc t) := by
  unfold cyc
  infer_instance
end
end C
end PG

set_option maxRecDepth 100000
set_option maxHeartbeats 4000000
namespace PG
open PySem PySem.Spec PyProof.Rows L2 RT
section
variable {st : List Cell} {Q : Vl → List Cell → Prop} {g k l : Hp3} {x : Ray} {n : Nat} {hs : List Hp3}
end
end PG

set_option maxRecDepth 100000
set_option maxHeartbeats 4000000
namespace PG
open PySem PySem.Spec PyProof.Rows L2 RT
end PG

set_option maxRecDepth 100000
set_option maxHeartbeats 4000000

namespace PG
namespace C
open PySem PySem.Spec PyProof.Rows L2 RT
theorem frT {n : Int} {d : Nat} {x : Rat} (h1 : x.num = n) (h2 : x.den = d) : Dt.tup [.int n, .int (d : Int)] = fr x := by
  unfold fr
  rw [h1, h2]
def T13 : List Rat := [-1, 0, 1, 2, -2, Rat.divInt 5 2, Rat.divInt (-5) 2, 3, Rat.divInt (-10) 3, Rat.divInt 1 2, Rat.divInt (-3) 2, Rat.divInt 7 4, 4]
theorem pickF {l : List Rat} {i : Int} (h0 : 0 ≤ i) (h1 : i < l.length) : ∃ x, x ∈ l ∧ atI (l.map fr) i = some (fr x) := by
  obtain ⟨n, rfl⟩ : ∃ n : Nat, i = (n : Int) := ⟨i.toNat, by omega⟩
  have hlt : n < l.length := by omega
  exact ⟨l[n], List.getElem_mem hlt, atI_map (f := fr) (List.getElem?_eq_getElem hlt)⟩
structure Dr (r : Rat) : Prop where
  in6 : In 6 4 r
  z : zb r ≤ 12
  far : r = 0 ∨ 1 / 3 ≤ r ∨ 1 / 3 ≤ -r
  pn : Pn r
theorem dr_of {r : Rat} (h : ∃ n d : Int, r = Rat.divInt n d ∧ 0 < d ∧ d ≤ 3 ∧ n.natAbs ≤ 4) : Dr r := by
  obtain ⟨n, d, rfl, d0, d3, hn⟩ := h
  have e : Rat.divInt n d * (d : Rat) = (n : Rat) := by
    rw [Rat.mul_comm]
    exact divInt_mul (by omega)
  have pd : (0 : Rat) < (d : Rat) := Rat.intCast_pos.mpr d0
  have pd3 : (d : Rat) ≤ 3 := by
    have := Rat.intCast_le_intCast.mpr d3
    exact this
  have i6 : In 6 4 (Rat.divInt n d) := by
    have : d = 1 ∨ d = 2 ∨ d = 3 := by omega
    rcases this with rfl | rfl | rfl
    · exact in_div (D := 6) (d := 1) (by decide) ⟨6, by decide⟩ (by omega)
    · exact in_div (D := 6) (d := 2) (by decide) ⟨3, by decide⟩ (by omega)
    · exact in_div (D := 6) (d := 3) (by decide) ⟨2, by decide⟩ (by omega)
  refine ⟨i6, Nat.le_trans (in_zb (b := 6) (by decide) i6 (by decide) (by decide) (by decide)) (by decide), ?_, ⟨n, d.toNat, by rw [Int.toNat_of_nonneg (by omega)], by omega, by omega, by omega⟩⟩
  generalize Rat.divInt n d = r at *
  by_cases c : n = 0
  · left
    rw [c] at e
    have e : r * (d : Rat) = 0 := e
    exact (Rat.mul_eq_zero.mp e).resolve_right (by grind)
  · rcases int_one c with h | h
    · right
      left
      rw [← e] at h
      refine Classical.byContradiction fun no => ?_
      have a := Rat.mul_pos (show 0 < 1 / 3 - r by grind) pd
      grind
    · right
      right
      rw [← e] at h
      refine Classical.byContradiction fun no => ?_
      have a := Rat.mul_pos (show 0 < 1 / 3 - -r by grind) pd
      grind
inductive Start : Rat → Rat → Rat → Rat → Prop
  | two {f s h : Rat} (hf : Dr f) (hs : In 6 12 s ∨ s = f / 2 ∨ s = f / 3 ∨ s = -(f / 2) ∨ s = -(f / 3)) (sz : zb s ≤ 16) (hh : Dr h) : Start 2 f s h
  | gen {t a b c : Rat} (ht : t ∈ T13) (t2 : t ≠ 2) (ha : Dr a) (hb : In 36 12 b) (bz : zb b ≤ 16) (hc : In 36 12 c) (cz : zb c ≤ 12) (cl : -5 ≤ c) (ab : a + b = 0 ∨ 1 / 6 ≤ a + b ∨ 1 / 6 ≤ -(a + b)) : Start t (a + c) (b + c) (t * b - a + c)
section
variable {st : List Cell} {Q : Vl → List Cell → Prop}
theorem drawn_ok {ds : List Int} {i k : Nat} (hk : st[k]? = some (Bx ds i)) (hi : i < 900000) (h : ∀ r : Rat, Dr r → Q (.d (fr r)) (st.set k (Bx ds (i + 2)))) : sp__law_fraction [.c k] st Q :=
  lfraction4_ok hk hi fun r hr => h r (dr_of hr)
end
end C
end PG

set_option maxRecDepth 100000
set_option maxHeartbeats 4000000

namespace PG
namespace C
open PySem PySem.Spec PyProof.Rows L2 RT
def G4 : List Rat := [1, 2, Rat.divInt 1 2, -1]
def G4D : List Dt := [.tup [.int 1, .int 1], .tup [.int 2, .int 1], .tup [.int 1, .int 2], .tup [.int (-1), .int 1]]
theorem G4_eq : G4D = G4.map fr := by
  have e : ∀ (n : Int) (d : Nat) (x : Rat), x.num = n → x.den = d → Dt.tup [.int n, .int (d : Int)] = fr x := fun n d x => frT
  unfold G4 G4D
  simp only [List.map_cons, List.map_nil]
  rw [← e 1 1 1 (by decide +kernel) (by decide +kernel), ← e 2 1 2 (by decide +kernel) (by decide +kernel), ← e 1 2 (Rat.divInt 1 2) (by decide +kernel) (by decide +kernel), ← e (-1) 1 (-1) (by decide +kernel) (by decide +kernel)]
  rfl
def L7 : List Rat := [1, 2, Rat.divInt 1 2, 3, 4, -1, Rat.divInt 3 2]
def L7D : List Dt := [.tup [.int 1, .int 1], .tup [.int 2, .int 1], .tup [.int 1, .int 2], .tup [.int 3, .int 1], .tup [.int 4, .int 1], .tup [.int (-1), .int 1], .tup [.int 3, .int 2]]
theorem L7_eq : L7D = L7.map fr := by
  have e : ∀ (n : Int) (d : Nat) (x : Rat), x.num = n → x.den = d → Dt.tup [.int n, .int (d : Int)] = fr x := fun n d x => frT
  unfold L7 L7D
  simp only [List.map_cons, List.map_nil]
  rw [← e 1 1 1 (by decide +kernel) (by decide +kernel), ← e 2 1 2 (by decide +kernel) (by decide +kernel), ← e 1 2 (Rat.divInt 1 2) (by decide +kernel) (by decide +kernel), ← e 3 1 3 (by decide +kernel) (by decide +kernel), ← e 4 1 4 (by decide +kernel) (by decide +kernel), ← e (-1) 1 (-1) (by decide +kernel) (by decide +kernel), ← e 3 2 (Rat.divInt 3 2) (by decide +kernel) (by decide +kernel)]
  rfl
def C3 : List Rat := [0, 0, Rat.divInt 1 2]
def C3D : List Dt := [.tup [.int 0, .int 1], .tup [.int 0, .int 1], .tup [.int 1, .int 2]]
theorem C3_eq : C3D = C3.map fr := by
  have e : ∀ (n : Int) (d : Nat) (x : Rat), x.num = n → x.den = d → Dt.tup [.int n, .int (d : Int)] = fr x := fun n d x => frT
  unfold C3 C3D
  simp only [List.map_cons, List.map_nil]
  rw [← e 0 1 0 (by decide +kernel) (by decide +kernel), ← e 1 2 (Rat.divInt 1 2) (by decide +kernel) (by decide +kernel)]
  rfl
def A3 : List Rat := [2, -1, Rat.divInt 1 2]
def A3D : List Dt := [.tup [.int 2, .int 1], .tup [.int (-1), .int 1], .tup [.int 1, .int 2]]
theorem A3_eq : A3D = A3.map fr := by
  have e : ∀ (n : Int) (d : Nat) (x : Rat), x.num = n → x.den = d → Dt.tup [.int n, .int (d : Int)] = fr x := fun n d x => frT
  unfold A3 A3D
  simp only [List.map_cons, List.map_nil]
  rw [← e 2 1 2 (by decide +kernel) (by decide +kernel), ← e (-1) 1 (-1) (by decide +kernel) (by decide +kernel), ← e 1 2 (Rat.divInt 1 2) (by decide +kernel) (by decide +kernel)]
  rfl
inductive Core : List El → Prop
  | afocal {m : Rat} (hm : m ∈ A3) : Core [.afocal m]
  | gap {g : Rat} (hg : g ∈ G4) : Core [.gap g]
  | lens {g p c : Rat} (hg : g ∈ G4) (hp : p ∈ L7) (hc : c ∈ C3) : Core [.gap g, .lens p c]
  | prism {g p c d : Rat} (hg : g ∈ G4) (hp : p ∈ L7) (hc : c ∈ C3) (hd : Dr d) : Core [.gap g, .lens p c, .prism d]
def isStop : El → Bool
  | .stop _ _ => true
  | _ => false
def Stop6 : El → Prop
  | .stop lo hi => (∀ q, lo = some q → In 6 4 q) ∧ ∀ q, hi = some q → In 6 8 q
  | _ => True
structure Cav (es : List El) : Prop where
  core : Core (es.filter fun e => !isStop e)
  len : es.length ≤ (es.filter fun e => !isStop e).length + 2
  el : ∀ e ∈ es, ElIn e
  st6 : ∀ e ∈ es, Stop6 e
theorem core_len {l : List El} (h : Core l) : l.length ≤ 3 := by
  cases h <;> (simp only [List.length_cons, List.length_nil]; omega)
theorem Cav.len5 {es : List El} (h : Cav es) : es.length ≤ 5 := by
  have := h.len
  have := core_len h.core
  omega
theorem pn_of {n : Int} {d : Nat} {x : Rat} (e : x = Rat.divInt n d) (h1 : n.natAbs ≤ 6) (h2 : 0 < d) (h3 : d ≤ 4) : Pn x := ⟨n, d, e, h1, h2, h3⟩
theorem g4_pn {x : Rat} (h : x ∈ G4) : Pn x := by
  unfold G4 at h
  simp only [List.mem_cons, List.not_mem_nil, or_false] at h
  rcases h with rfl | rfl | rfl | rfl
  · exact pn_of (n := 1) (d := 1) (by decide +kernel) (by decide) (by decide) (by decide)
  · exact pn_of (n := 2) (d := 1) (by decide +kernel) (by decide) (by decide) (by decide)
  · exact pn_of (n := 1) (d := 2) rfl (by decide) (by decide) (by decide)
  · exact pn_of (n := -1) (d := 1) (by decide +kernel) (by decide) (by decide) (by decide)
theorem l7_pn {x : Rat} (h : x ∈ L7) : Pn x := by
  unfold L7 at h
  simp only [List.mem_cons, List.not_mem_nil, or_false] at h
  rcases h with rfl | rfl | rfl | rfl | rfl | rfl | rfl
  · exact pn_of (n := 1) (d := 1) (by decide +kernel) (by decide) (by decide) (by decide)
  · exact pn_of (n := 2) (d := 1) (by decide +kernel) (by decide) (by decide) (by decide)
  · exact pn_of (n := 1) (d := 2) rfl (by decide) (by decide) (by decide)
  · exact pn_of (n := 3) (d := 1) (by decide +kernel) (by decide) (by decide) (by decide)
  · exact pn_of (n := 4) (d := 1) (by decide +kernel) (by decide) (by decide) (by decide)
  · exact pn_of (n := -1) (d := 1) (by decide +kernel) (by decide) (by decide) (by decide)
  · exact pn_of (n := 3) (d := 2) rfl (by decide) (by decide) (by decide)
theorem c3_pn {x : Rat} (h : x ∈ C3) : Pn x := by
  unfold C3 at h
  simp only [List.mem_cons, List.not_mem_nil, or_false] at h
  rcases h with rfl | rfl | rfl
  · exact pn_of (n := 0) (d := 1) (by decide +kernel) (by decide) (by decide) (by decide)
  · exact pn_of (n := 0) (d := 1) (by decide +kernel) (by decide) (by decide) (by decide)
  · exact pn_of (n := 1) (d := 2) rfl (by decide) (by decide) (by decide)
theorem a3_pn {x : Rat} (h : x ∈ A3) : Pn x ∧ x ≠ 0 := by
  unfold A3 at h
  simp only [List.mem_cons, List.not_mem_nil, or_false] at h
  rcases h with rfl | rfl | rfl
  · exact ⟨pn_of (n := 2) (d := 1) (by decide +kernel) (by decide) (by decide) (by decide), by decide +kernel⟩
  · exact ⟨pn_of (n := -1) (d := 1) (by decide +kernel) (by decide) (by decide) (by decide), by decide +kernel⟩
  · exact ⟨pn_of (n := 1) (d := 2) rfl (by decide) (by decide) (by decide), by decide +kernel⟩

structure Sto (st0 : List Cell) (k : Nat) (ds : List Int) (j kf : Nat) (es : List El) (s : List Cell) : Prop where
  tk : s.take st0.length = st0.set k (Bx ds j)
  ge : st0.length ≤ kf
  at_ : s[kf]? = some (.lst (es.map elD))
  bx : s[k]? = some (Bx ds j)
  kl : k < st0.length
section
variable {st0 s : List Cell} {k j kf : Nat} {ds : List Int} {es : List El}
theorem Sto.draw (S : Sto st0 k ds j kf es s) (j' : Nat) : Sto st0 k ds j' kf es (s.set k (Bx ds j')) := by
  have hk : k < s.length := (List.getElem?_eq_some_iff.mp S.bx).1
  refine ⟨?_, S.ge, ?_, by simp [hk], S.kl⟩
  · rw [List.take_set, S.tk, List.set_set]
  · rw [List.getElem?_set_ne (by have := S.ge; have := S.kl; omega)]
    exact S.at_
theorem Sto.push (S : Sto st0 k ds j kf es s) (es' : List El) : Sto st0 k ds j s.length es' (s ++ [.lst (es'.map elD)]) := by
  have hk : k < s.length := (List.getElem?_eq_some_iff.mp S.bx).1
  have hl : st0.length ≤ s.length := by
    have := (List.getElem?_eq_some_iff.mp S.at_).1
    have := S.ge
    omega
  refine ⟨?_, hl, getElem_last _ _, ?_, S.kl⟩
  · rw [List.take_append_of_le_length hl]
    exact S.tk
  · rw [List.getElem?_append_left hk]
    exact S.bx
theorem Sto.app (S : Sto st0 k ds j kf es s) (e : El) : Sto st0 k ds j kf (es ++ [e]) (s.set kf (.lst ((es ++ [e]).map elD))) := by
  have hk : kf < s.length := (List.getElem?_eq_some_iff.mp S.at_).1
  refine ⟨?_, S.ge, by simp [hk], ?_, S.kl⟩
  · rw [List.take_set_of_le S.ge]
    exact S.tk
  · rw [List.getElem?_set_ne (by have := S.ge; have := S.kl; omega)]
    exact S.bx
end
theorem appendC {i k : Nat} {te : DE} {E : DEnds} {m : M} (P : Dt → M → Prop) (hv : m.sl[i]? = some (some (.c k))) (hk0 : ∃ zs, m.st[k]? = some (.lst zs)) (ht : ∀ C : Vl → M → Prop, (∀ d m', P d m' → C (.d d) m') → te m C)
    (h : ∀ d m', P d m' → ∃ xs, m'.st[k]? = some (.lst xs) ∧ xs.length < sizeLine ∧ E.nx ⟨m'.sl, m'.st.set k (.lst (xs ++ [d]))⟩) : dDo (dMeth mAppend (dVar i) (dCons te dNil)) E m := by
  unfold dDo dMeth dVar
  rw [hv]
  refine ⟨hk0, ht _ fun d m' p => ?_⟩
  obtain ⟨xs, e, hl, hn⟩ := h d m' p
  show onC m'.st k _
  exact onC_mk e ⟨hl, hn⟩
section
variable {st : List Cell} {Q : Vl → List Cell → Prop} {ds : List Int} {i k : Nat}
theorem stop6_ok (hk : st[k]? = some (Bx ds i)) (hi : i < 800000) (h : ∀ (lo hi : Option Rat), ElIn (.stop lo hi) → Stop6 (.stop lo hi) → Q (.d (elD (.stop lo hi))) (st.set k (Bx ds (i + 4)))) : sp__law_stop_2 [.c k] st Q := by
  have hlt : k < st.length := (List.getElem?_eq_some_iff.mp hk).1
  have hs : ∀ c : Cell, (st.set k c)[k]? = some c := fun c => by simp [hlt]
  have hl : ∀ c : Cell, (st.set k c).length = st.length := fun c => List.length_set
  have tk' : ∀ {v : Vl} {c : Cell}, Q v (st.set k c) → Q v ((st.set k c).take st.length) := fun {v c} q => by
    rw [← hl c]
    exact tk q
  unfold sp__law_stop_2
  refine ⟨rfl, drawn_ok hk (by omega) fun l hl1 => ?_⟩
  refine draw2_ok (hs _) (by decide) (by omega) fun a a0 a1 => ?_
  rw [List.set_set]
  refine lfrac_ok (by decide) ?_
  have hd : In 6 4 (Rat.divInt a 2) := in_div (d := 2) (by decide) ⟨3, rfl⟩ (by omega)
  have zd := in_zb (b := 7) (by decide) hd (by decide) (by decide) (by decide)
  refine ladd2_ok (x := l) (y := Rat.divInt a 2) (zm (by have := hl1.z; omega)) ?_
  have hu : In 6 8 (l + Rat.divInt a 2) := in_add hl1.in6 hd
  have hu12 : In 12 12 (l + Rat.divInt a 2) := in_le (by decide) (in_up (k := 2) (by decide) hu)
  have hl12 : In 12 12 l := in_le (by decide) (in_up (k := 2) (by decide) hl1.in6)
  generalize l + Rat.divInt a 2 = u at hu hu12
  refine draw2_ok (hs _) (by decide) (by omega) fun w w0 w1 => ?_
  rw [List.set_set]
  let S : M := ⟨[some (.c k), some (.d (fr l)), some (.d (fr u)), some (.d (.int w))], st.set k (Bx ds (i + 4))⟩
  dsimp only
  by_cases c0 : w = 0
  · refine ifs_t S (fun K hK => ⟨rfl, rfl, ?_⟩) ⟨lineN rfl, tk' (h none (some u) ⟨(fun q e => nomatch e), fun q e => by cases e; exact hu12⟩ ⟨(fun q e => nomatch e), fun q e => by cases e; exact hu⟩)⟩
    show K (eqD (.int w) (.int 0)) _
    rw [eqD_int, decide_eq_true c0]
    exact hK
  refine guard_st S (fun K hK => ⟨rfl, rfl, ?_⟩) ?_
  · show K (eqD (.int w) (.int 0)) _
    rw [eqD_int, decide_eq_false c0]
    exact hK
  by_cases c1 : w = 1
  · refine ifs_t S (fun K hK => ⟨rfl, rfl, ?_⟩) ⟨lineN rfl, tk' (h (some l) none ⟨fun q e => by cases e; exact hl12, (fun q e => nomatch e)⟩ ⟨fun q e => by cases e; exact hl1.in6, (fun q e => nomatch e)⟩)⟩
    show K (eqD (.int w) (.int 1)) _
    rw [eqD_int, decide_eq_true c1]
    exact hK
  refine guard_st S (fun K hK => ⟨rfl, rfl, ?_⟩) ⟨lineN rfl, tk' (h (some l) (some u) ⟨fun q e => by cases e; exact hl12, fun q e => by cases e; exact hu12⟩ ⟨fun q e => by cases e; exact hl1.in6, fun q e => by cases e; exact hu⟩)⟩
  show K (eqD (.int w) (.int 1)) _
  rw [eqD_int, decide_eq_false c1]
  exact hK
theorem cav_of {es core : List El} (e : es.filter (fun e => !isStop e) = core) (hc : Core core) (hl : es.length ≤ core.length + 2) (el : ∀ x ∈ es, ElIn x) (s6 : ∀ x ∈ es, Stop6 x) : Cav es :=
  ⟨by rw [e]; exact hc, by rw [e]; exact hl, el, s6⟩
theorem core_in {l : List El} (h : Core l) : (∀ e ∈ l, ElIn e) ∧ (∀ e ∈ l, Stop6 e) ∧ l.filter (fun e => !isStop e) = l := by
  cases h with
  | afocal hm =>
    refine ⟨fun e he => ?_, fun e he => ?_, rfl⟩
    · rw [List.mem_singleton.mp he]
      exact a3_pn hm
    · rw [List.mem_singleton.mp he]
      trivial
  | gap hg =>
    refine ⟨fun e he => ?_, fun e he => ?_, rfl⟩
    · rw [List.mem_singleton.mp he]
      exact g4_pn hg
    · rw [List.mem_singleton.mp he]
      trivial
  | lens hg hp hc =>
    refine ⟨fun e he => ?_, fun e he => ?_, rfl⟩
    · simp only [List.mem_cons, List.not_mem_nil, or_false] at he
      rcases he with rfl | rfl
      · exact g4_pn hg
      · exact ⟨l7_pn hp, c3_pn hc⟩
    · simp only [List.mem_cons, List.not_mem_nil, or_false] at he
      rcases he with rfl | rfl <;> trivial
  | prism hg hp hc hd =>
    refine ⟨fun e he => ?_, fun e he => ?_, rfl⟩
    · simp only [List.mem_cons, List.not_mem_nil, or_false] at he
      rcases he with rfl | rfl | rfl
      · exact g4_pn hg
      · exact ⟨l7_pn hp, c3_pn hc⟩
      · exact hd.pn
    · simp only [List.mem_cons, List.not_mem_nil, or_false] at he
      rcases he with rfl | rfl | rfl <;> trivial
theorem cav_first {lo hi : Option Rat} {core : List El} (hc : Core core) (h1 : ElIn (.stop lo hi)) (h2 : Stop6 (.stop lo hi)) : (∀ x ∈ (El.stop lo hi :: core), ElIn x) ∧ (∀ x ∈ (El.stop lo hi :: core), Stop6 x) ∧ (El.stop lo hi :: core).filter (fun e => !isStop e) = core := by
  obtain ⟨a, b, c⟩ := core_in hc
  refine ⟨fun x hx => ?_, fun x hx => ?_, ?_⟩
  · rcases List.mem_cons.mp hx with rfl | hx
    · exact h1
    · exact a x hx
  · rcases List.mem_cons.mp hx with rfl | hx
    · exact h2
    · exact b x hx
  · exact c
theorem cavity_ok (hk : st[k]? = some (Bx ds i)) (hi : i < 1000) (h : ∀ (es : List El) (j : Nat), j ≤ i + 30 → Cav es → Q (.d (.lst (es.map elD))) (st.set k (Bx ds j))) : sp__law_cavity [.c k] st Q := by
  have hlt : k < st.length := (List.getElem?_eq_some_iff.mp hk).1
  have hs : ∀ c : Cell, (st.set k c)[k]? = some c := fun c => by simp [hlt]
  have hl : ∀ c : Cell, (st.set k c).length = st.length := fun c => List.length_set
  unfold sp__law_cavity
  refine ⟨rfl, ?_⟩
  let S : Option Vl → Option Vl → Option Vl → Option Vl → Option Vl → List Cell → M := fun z1 z2 z3 z4 z5 s => ⟨[some (.c k), z1, z2, z3, z4, z5], s⟩
  let e_ : El → Option Vl := fun e => some (.d (elD e))
  refine seq_mid (fun m => ∃ g, g ∈ G4 ∧ m = S (e_ (.gap g)) none none none none (st.set k (Bx ds (i + 1)))) (fun K hK => ?_) ?_
  · refine ⟨lineN rfl, lineN rfl, lineN rfl, lineN rfl, lineN rfl, ?_⟩
    refine draw2_ok hk (by decide) (by omega) fun a a0 a1 => ?_
    obtain ⟨g, hg, e⟩ := pickF (l := G4) a0 a1
    rw [← G4_eq] at e
    refine rIx_mk e ⟨lineN rfl, hK _ ⟨g, hg, rfl⟩⟩
  rintro _ ⟨g, hg, rfl⟩
  refine seq_mid (fun m => ∃ p c, p ∈ L7 ∧ c ∈ C3 ∧ m = S (e_ (.gap g)) (e_ (.lens p c)) none none none (st.set k (Bx ds (i + 3)))) (fun K hK => ?_) ?_
  · refine ⟨lineN rfl, lineN rfl, lineN rfl, lineN rfl, lineN rfl, lineN rfl, lineN rfl, lineN rfl, ?_⟩
    refine draw2_ok (hs _) (by decide) (by omega) fun a a0 a1 => ?_
    rw [List.set_set]
    obtain ⟨p, hp, e⟩ := pickF (l := L7) a0 a1
    rw [← L7_eq] at e
    refine rIx_mk e ?_
    refine ⟨lineN rfl, lineN rfl, lineN rfl, lineN rfl, ?_⟩
    refine draw2_ok (hs _) (by decide) (by omega) fun b b0 b1 => ?_
    rw [List.set_set]
    obtain ⟨c, hc, e⟩ := pickF (l := C3) b0 b1
    rw [← C3_eq] at e
    refine rIx_mk e ⟨lineN rfl, hK _ ⟨p, c, hp, hc, rfl⟩⟩
  rintro _ ⟨p, c, hp, hc, rfl⟩
  let G := e_ (.gap g)
  let L := e_ (.lens p c)
  have c1 : Core [.gap g, .lens p c] := .lens hg hp hc
  -- what is found so far
  let F : List El → List El → Prop := fun core es => Core core ∧ es.filter (fun e => !isStop e) = core ∧ es.length ≤ core.length + 1 ∧ (∀ x ∈ es, ElIn x) ∧ ∀ x ∈ es, Stop6 x
  refine seq_mid (fun m => ∃ es kf s, F [.gap g, .lens p c] es ∧ (∃ s0, es = [s0, .gap g, .lens p c]) ∧ Sto st k ds (i + 7) kf es s ∧ m = S G L (some (.c kf)) none none s) (fun K hK => ?_) ?_
  · refine stop6_ok (hs _) (by omega) fun lo hi h1 h2 => ?_
    rw [List.set_set]
    obtain ⟨a1, a2, a3⟩ := cav_first c1 h1 h2
    refine ⟨lineN rfl, hK _ ⟨[.stop lo hi, .gap g, .lens p c], (st.set k (Bx ds (i + 7))).length, _, ⟨c1, a3, Nat.le_refl _, a1, a2⟩, ⟨_, rfl⟩, ⟨?_, ?_, getElem_last _ _, ?_, hlt⟩, rfl⟩⟩
    · rw [← hl (Bx ds (i + 3 + 4)), List.take_left]
    · rw [hl]
      exact Nat.le_refl _
    · rw [List.getElem?_append_left (by rw [hl]; exact hlt)]
      exact hs _
  rintro _ ⟨es0, kf0, s0, F0, E0, S0, rfl⟩
  refine seq_mid (fun m => ∃ kd, m = S G L (some (.c kf0)) (some (.d (.int kd))) none (s0.set k (Bx ds (i + 8)))) (fun K hK => draw2_ok S0.bx (by decide) (by omega) fun a _ _ => hK _ ⟨a, rfl⟩) ?_
  rintro _ ⟨kd, rfl⟩
  have S0 := S0.draw (i + 8)
  generalize s0.set k (Bx ds (i + 8)) = s0 at *
  let KD : Option Vl := some (.d (.int kd))
  -- the afocal ones
  refine seq_mid (fun m => ∃ core es kf s j, F core es ∧ (kd ≠ 0 → es = es0 ∧ core = [.gap g, .lens p c]) ∧ j ≤ i + 14 ∧ Sto st k ds j kf es s ∧ m = S G L (some (.c kf)) KD none s) (fun K hK => ?_) ?_
  · refine ⟨rfl, rfl, ?_⟩
    show if eqD (.int kd) (.int 0) = true then _ else _
    rw [eqD_int]
    refine ifd (fun c0 => ?_) fun c0 => hK _ ⟨_, es0, kf0, s0, i + 8, F0, fun _ => ⟨rfl, rfl⟩, by omega, S0, rfl⟩
    refine stop6_ok S0.bx (by omega) fun lo hi h1 h2 => ?_
    refine ⟨lineN rfl, lineN rfl, lineN rfl, lineN rfl, ?_⟩
    have S1 := S0.draw (i + 8 + 4)
    refine draw2_ok S1.bx (by decide) (by omega) fun a a0 a1 => ?_
    rw [List.set_set]
    obtain ⟨m, hm, e⟩ := pickF (l := A3) a0 a1
    rw [← A3_eq] at e
    refine rIx_mk e ⟨lineN rfl, lineN rfl, ?_⟩
    obtain ⟨b1, b2, b3⟩ := cav_first (.afocal hm) h1 h2
    exact hK _ ⟨[.afocal m], [.stop lo hi, .afocal m], _, _, i + 13, ⟨.afocal hm, b3, Nat.le_refl _, b1, b2⟩, fun n => (n c0).elim, by omega, (S0.draw (i + 13)).push [.stop lo hi, .afocal m], rfl⟩
  rintro _ ⟨core1, es1, kf1, s1, j1, F1, K1, hj1, S1, rfl⟩
  -- gaps alone
  refine seq_mid (fun m => ∃ core es kf s j, F core es ∧ (kd = 2 → core = [.gap g, .lens p c]) ∧ j ≤ i + 18 ∧ Sto st k ds j kf es s ∧ m = S G L (some (.c kf)) KD none s) (fun K hK => ?_) ?_
  · refine ⟨rfl, rfl, ?_⟩
    show if eqD (.int kd) (.int 1) = true then _ else _
    rw [eqD_int]
    refine ifd (fun c0 => ?_) fun c0 => hK _ ⟨core1, es1, kf1, s1, j1, F1, fun e => (K1 (by omega)).2, by omega, S1, rfl⟩
    refine stop6_ok S1.bx (by omega) fun lo hi h1 h2 => ?_
    refine ⟨lineN rfl, ?_⟩
    obtain ⟨b1, b2, b3⟩ := cav_first (.gap hg) h1 h2
    exact hK _ ⟨[.gap g], [.stop lo hi, .gap g], _, _, j1 + 4, ⟨.gap hg, b3, Nat.le_refl _, b1, b2⟩, fun e => by omega, by omega, (S1.draw (j1 + 4)).push [.stop lo hi, .gap g], rfl⟩
  rintro _ ⟨core2, es2, kf2, s2, j2, F2, K2, hj2, S2, rfl⟩
  -- with a prism
  refine seq_mid (fun m => ∃ core es kf s j, F core es ∧ j ≤ i + 20 ∧ Sto st k ds j kf es s ∧ m = S G L (some (.c kf)) KD none s) (fun K hK => ?_) ?_
  · refine ⟨rfl, rfl, ?_⟩
    show if eqD (.int kd) (.int 2) = true then _ else _
    rw [eqD_int]
    refine ifd (fun c0 => ?_) fun c0 => hK _ ⟨core2, es2, kf2, s2, j2, F2, by omega, S2, rfl⟩
    have e2 := K2 c0
    subst e2
    have eslen : es2.length ≤ 3 := F2.2.2.1
    refine appendC (k := kf2) (fun d m' => ∃ q, Dr q ∧ d = elD (.prism q) ∧ m' = S G L (some (.c kf2)) KD none (s2.set k (Bx ds (j2 + 2)))) rfl ⟨_, S2.at_⟩ (fun C hC => drawn_ok S2.bx (by omega) fun q hq => ⟨lineN rfl, hC _ _ ⟨q, hq, rfl, rfl⟩⟩) ?_
    rintro _ _ ⟨q, hq, rfl, rfl⟩
    have S3 := S2.draw (j2 + 2)
    refine ⟨es2.map elD, S3.at_, small_lt (by rw [List.length_map]; omega), ?_⟩
    have e3 : es2.map elD ++ [elD (.prism q)] = (es2 ++ [El.prism q]).map elD := by rw [List.map_append]; rfl
    rw [e3]
    refine hK _ ⟨[.gap g, .lens p c, .prism q], es2 ++ [El.prism q], kf2, _, j2 + 2, ⟨.prism hg hp hc hq, ?_, ?_, fun x hx => ?_, fun x hx => ?_⟩, by omega, S3.app (.prism q), rfl⟩
    · rw [List.filter_append, F2.2.1]
      rfl
    · rw [List.length_append]
      show es2.length + 1 ≤ 4
      omega
    · rcases List.mem_append.mp hx with hx | hx
      · exact F2.2.2.2.1 x hx
      · rw [List.mem_singleton.mp hx]
        exact hq.pn
    · rcases List.mem_append.mp hx with hx | hx
      · exact F2.2.2.2.2 x hx
      · rw [List.mem_singleton.mp hx]
        trivial
  rintro _ ⟨core3, es3, kf3, s3, j3, F3, hj3, S3, rfl⟩
  have len3 : es3.length ≤ 4 := by
    have := core_len F3.1
    have := F3.2.2.1
    omega
  -- another stop
  refine seq_mid (fun m => ∃ es kf s j, Cav es ∧ j ≤ i + 26 ∧ Sto st k ds j kf es s ∧ m = S G L (some (.c kf)) KD none s) (fun K hK => ?_) ?_
  · refine draw2_ok S3.bx (by decide) (by omega) fun a _ _ => ⟨rfl, rfl, ?_⟩
    show if eqD (.int a) (.int 0) = true then _ else _
    rw [eqD_int]
    have S4 := S3.draw (j3 + 1)
    refine ifd (fun c0 => ?_) fun c0 => hK _ ⟨es3, kf3, _, j3 + 1, cav_of F3.2.1 F3.1 (by have := F3.2.2.1; omega) F3.2.2.2.1 F3.2.2.2.2, by omega, S4, rfl⟩
    refine appendC (k := kf3) (fun d m' => ∃ lo hi, ElIn (.stop lo hi) ∧ Stop6 (.stop lo hi) ∧ d = elD (.stop lo hi) ∧ m' = S G L (some (.c kf3)) KD none ((s3.set k (Bx ds (j3 + 1))).set k (Bx ds (j3 + 1 + 4)))) rfl ⟨_, S4.at_⟩ (fun C hC => stop6_ok S4.bx (by omega) fun lo hi h1 h2 => hC _ _ ⟨lo, hi, h1, h2, rfl, rfl⟩) ?_
    rintro _ _ ⟨lo, hi, h1, h2, rfl, rfl⟩
    have S5 := S4.draw (j3 + 1 + 4)
    refine ⟨es3.map elD, S5.at_, small_lt (by rw [List.length_map]; omega), ?_⟩
    have e3 : es3.map elD ++ [elD (.stop lo hi)] = (es3 ++ [El.stop lo hi]).map elD := by rw [List.map_append]; rfl
    rw [e3]
    refine hK _ ⟨es3 ++ [El.stop lo hi], kf3, _, j3 + 1 + 4, cav_of (core := core3) ?_ F3.1 ?_ (fun x hx => ?_) (fun x hx => ?_), by omega, S5.app (.stop lo hi), rfl⟩
    · rw [List.filter_append, F3.2.1]
      exact List.append_nil core3
    · rw [List.length_append]
      show es3.length + 1 ≤ _
      have := F3.2.2.1
      omega
    · rcases List.mem_append.mp hx with hx | hx
      · exact F3.2.2.2.1 x hx
      · rw [List.mem_singleton.mp hx]
        exact h1
    · rcases List.mem_append.mp hx with hx | hx
      · exact F3.2.2.2.2 x hx
      · rw [List.mem_singleton.mp hx]
        exact h2
  rintro _ ⟨es4, kf4, s4, j4, F4, hj4, S4, rfl⟩
  have len4 := F4.len5
  -- the stops taken out
  refine seq_mid (fun m => ∃ es kf s j, Cav es ∧ j ≤ i + 28 ∧ Sto st k ds j kf es s ∧ m = S G L (some (.c kf)) KD none s) (fun K hK => ?_) ?_
  · refine draw2_ok S4.bx (by decide) (by omega) fun a _ _ => ⟨rfl, rfl, ?_⟩
    show if eqD (.int a) (.int 0) = true then _ else _
    rw [eqD_int]
    have S5 := S4.draw (j4 + 1)
    refine ifd (fun c0 => ?_) fun c0 => hK _ ⟨es4, kf4, _, j4 + 1, F4, by omega, S5, rfl⟩
    generalize s4.set k (Bx ds (j4 + 1)) = s5 at *
    refine onC_mk (xs := es4.map elD) S5.at_ ?_
    refine filt_ownM (lk := some kf4) (f := elD) (p := fun e => !isStop e) (i := 5) S5.at_ (Nat.lt_of_sub_eq_succ rfl) es4 [] (fun e he P hP => ?_) (by rw [List.length_nil]; omega) ?_
    · cases e with
      | gap g =>
        refine ⟨s_gap, s_stop, ?_⟩
        show P (!eqD (.str ("gap" : Str)) (.str ("stop" : Str))) _
        rw [eqS, ne_gs]
        exact hP
      | lens g c =>
        refine ⟨s_lens, s_stop, ?_⟩
        show P (!eqD (.str ("lens" : Str)) (.str ("stop" : Str))) _
        rw [eqS, ne_ls]
        exact hP
      | prism g =>
        refine ⟨s_prism, s_stop, ?_⟩
        show P (!eqD (.str ("prism" : Str)) (.str ("stop" : Str))) _
        rw [eqS, ne_ps]
        exact hP
      | afocal g =>
        refine ⟨s_afocal, s_stop, ?_⟩
        show P (!eqD (.str ("afocal" : Str)) (.str ("stop" : Str))) _
        rw [eqS, ne_as]
        exact hP
      | stop lo hi =>
        refine ⟨s_stop, s_stop, ?_⟩
        show P (!eqD (.str ("stop" : Str)) (.str ("stop" : Str))) _
        rw [eqS, decide_eq_true rfl]
        exact hP
    · rw [List.nil_append]
      have fl : (es4.filter fun e => !isStop e).length ≤ 3 := core_len F4.core
      refine ⟨lineN rfl, lineN rfl, lineN rfl, lineN rfl, ?_⟩
      refine ⟨Nat.le_trans (show _ ≤ 10 by simp only [List.length_map, List.length_cons, List.length_nil]; omega) (by decide), ?_⟩
      have e3 : (es4.filter fun e => !isStop e).map elD ++ [Dt.tup [.str ("stop" : Str), .tup [.int (-4), .int 1], .tup [.int 4, .int 1]]] = ((es4.filter fun e => !isStop e) ++ [El.stop (some (-4)) (some 4)]).map elD := by
        rw [List.map_append]
        rfl
      show K (S G L (some (.c s5.length)) KD none (s5 ++ [Cell.lst ((es4.filter fun e => !isStop e).map elD ++ [Dt.tup [.str ("stop" : Str), .tup [.int (-4), .int 1], .tup [.int 4, .int 1]]])]))
      rw [e3]
      obtain ⟨b1, b2, b3⟩ := core_in F4.core
      refine hK _ ⟨(es4.filter fun e => !isStop e) ++ [El.stop (some (-4)) (some 4)], _, _, j4 + 1, cav_of (core := es4.filter fun e => !isStop e) ?_ F4.core ?_ (fun x hx => ?_) (fun x hx => ?_), by omega, S5.push _, rfl⟩
      · rw [List.filter_append, b3]
        exact List.append_nil _
      · rw [List.length_append]
        show _ + 1 ≤ _
        omega
      · rcases List.mem_append.mp hx with hx | hx
        · exact b1 x hx
        · rw [List.mem_singleton.mp hx]
          exact ⟨fun q e => by cases e; exact ⟨-48, by decide +kernel, by decide⟩, fun q e => by cases e; exact ⟨48, by decide +kernel, by decide⟩⟩
      · rcases List.mem_append.mp hx with hx | hx
        · exact b2 x hx
        · rw [List.mem_singleton.mp hx]
          exact ⟨fun q e => by cases e; exact ⟨-24, by decide +kernel, by decide⟩, fun q e => by cases e; exact ⟨24, by decide +kernel, by decide⟩⟩
  rintro _ ⟨es, kf, s, j, F, hj, Sf, rfl⟩
  refine Eq.mp (if_neg (Nat.not_lt.mpr Sf.ge)).symm (onC_mk Sf.at_ ?_)
  show Q _ (s.take st.length)
  rw [Sf.tk]
  exact h es j (by omega) F
end
end C
end PG

set_option maxRecDepth 100000
set_option maxHeartbeats 4000000
namespace PG
namespace C
open PySem PySem.Spec PyProof.Rows L2 RT
theorem Cav.rp {es : List El} (h : Cav es) : Rp 500 es 8 := ⟨h.el, by have := h.len5; omega, by have := h.len5; omega⟩
theorem eqD_ones2 {α : Type} (l : List α) : eqD (.lst (l.map fun _ => Dt.int 1)) (.lst []) = l.isEmpty := by
  cases l <;> rfl
theorem more_eq {es : List El} {n : Nat} (hd : ∀ g ∈ ways es n, Dir g) : ((ways es (n + 1)).filter fun g => !impB (ways es n) g).isEmpty = nextB es n := by
  have self : ∀ g ∈ ways es n, impB (ways es n) g = true := fun g hg => (B.imp_iff hd).mpr fun x hx => hx g hg
  show (((ways es n ++ hpT es n).filter fun g => !impB (ways es n) g).isEmpty) = _
  rw [List.filter_append]
  have e : (ways es n).filter (fun g => !impB (ways es n) g) = [] := by
    rw [List.filter_eq_nil_iff]
    intro g hg
    rw [self g hg]
    decide
  rw [e, List.nil_append]
  unfold nextB
  rw [Bool.eq_iff_iff, List.isEmpty_iff, List.filter_eq_nil_iff, List.all_eq_true]
  constructor
  · intro h g hg
    have := h g hg
    simpa using this
  · intro h g hg
    rw [h g hg]
    decide
theorem first_of {f : Nat → Bool} {most : Nat} (hm : most ≤ 4) : (List.range (most + 1)).find? f = ((List.range 5).find? f).bind fun d => if most < d then none else some d := by
  have : List.range 5 = [0, 1, 2, 3, 4] := rfl
  have hc : most = 0 ∨ most = 1 ∨ most = 2 ∨ most = 3 ∨ most = 4 := by omega
  rw [this]
  rcases hc with rfl | rfl | rfl | rfl | rfl
  · show [0].find? f = _
    simp only [List.find?_cons, List.find?_nil]
    cases f 0 <;> cases f 1 <;> cases f 2 <;> cases f 3 <;> cases f 4 <;> rfl
  · show [0, 1].find? f = _
    simp only [List.find?_cons, List.find?_nil]
    cases f 0 <;> cases f 1 <;> cases f 2 <;> cases f 3 <;> cases f 4 <;> rfl
  · show [0, 1, 2].find? f = _
    simp only [List.find?_cons, List.find?_nil]
    cases f 0 <;> cases f 1 <;> cases f 2 <;> cases f 3 <;> cases f 4 <;> rfl
  · show [0, 1, 2, 3].find? f = _
    simp only [List.find?_cons, List.find?_nil]
    cases f 0 <;> cases f 1 <;> cases f 2 <;> cases f 3 <;> cases f 4 <;> rfl
  · show [0, 1, 2, 3, 4].find? f = _
    simp only [List.find?_cons, List.find?_nil]
    cases f 0 <;> cases f 1 <;> cases f 2 <;> cases f 3 <;> cases f 4 <;> rfl
theorem shows_onat {o : Option Nat} (h : ∀ n, o = some n → n ≤ 1000) : shows (onat o) := by
  cases o with
  | none => exact (lg_non).shows (by decide) (by decide)
  | some n =>
    refine (lg_int ?_).shows (by decide) (by decide)
    have := h n rfl
    have := log_le (z := (n : Int)) (n := 1000) (b := 9) (by omega) (by decide)
    omega
theorem kept_ok {st : List Cell} {Q : Vl → List Cell → Prop} {es : List El} {z n : Nat} (R : Rp z es n) (hz : z ≤ 2000) (hN : 2 ≤ n) (h45 : 2 * es.length ≤ 45) (h : Q (.d (.bl (nextB es 1))) st) : sp_is_kept [.d (.lst (es.map elD))] st Q := by
  unfold sp_is_kept
  refine ⟨rfl, ?_⟩
  exact next_ok (N := 1) R hz (by decide) (by omega) (by omega) (tk h)
theorem law_k54 : LawD 63 sp_law_40 := fun ns hl hb => by
  unfold sp_law_40
  refine ⟨rfl, ?_⟩
  let sc : Dt := .lst (ns.map .int)
  let X : Option Vl → Option Vl → Option Vl → Option Vl → Option Vl → Option Vl → Option Vl → Option Vl → List Cell → M := fun z2 z3 z4 z5 z6 z7 z8 z9 st => ⟨[some (.d sc), some (.c 0), z2, z3, z4, z5, z6, z7, z8, z9, none], st⟩
  refine seq_mid (fun m => ∃ ds : List Int, m = X none none none none none none none none [Bx ds 0]) (fun K hK => box_ok hb (by decide) (by decide) fun ds hd hdl => hK _ ⟨ds, rfl⟩) ?_
  rintro _ ⟨ds, rfl⟩
  refine seq_mid (fun m => ∃ es j, j ≤ 30 ∧ Cav es ∧ m = X (some (.d (.lst (es.map elD)))) none none none none none none none [Bx ds j]) (fun K hK => ?_) ?_
  · exact cavity_ok (k := 0) (i := 0) (ds := ds) rfl (by decide) fun es j hj he => hK _ ⟨es, j, by omega, he, rfl⟩
  rintro _ ⟨es, j, hj, he, rfl⟩
  have R := he.rp
  have l5 := he.len5
  let E : Option Vl := some (.d (.lst (es.map elD)))
  refine seq_mid (fun m => ∃ many : Nat, many ≤ 3 ∧ m = X E (some (.d (.int (many : Int)))) none none none none none none [Bx ds (j + 1)]) (fun K hK => ?_) ?_
  · refine draw2_ok (k := 0) (i := j) (ds := ds) rfl (by decide) (by omega) fun a a0 a1 => ?_
    refine hK _ ⟨a.toNat, by omega, ?_⟩
    rw [Int.toNat_of_nonneg a0]
    rfl
  rintro _ ⟨many, hmany, rfl⟩
  let N3 : Option Vl := some (.d (.int (many : Int)))
  have sw : ∀ k, k ≤ 9 → shows (.lst ((ways es k).map hpD)) := fun k hk => by
    have h := R.hzw (k := k) (by omega)
    have w := ways_len es k
    have w2 : k * (2 * es.length) ≤ 9 * 10 := Nat.mul_le_mul hk (by omega)
    exact (lg_hps (fun g hg => B.HZ.le (h g hg).1 (by decide)) (by omega)).shows (by decide) (by decide)
  refine guard_st (X E N3 none none none none none none [Bx ds (j + 1)]) (fun K hK => ?_) ?_
  · refine pass_ok (N := many) R (by decide) (by omega) (by omega) ?_
    refine way_ok (N := many) R (by decide) (by omega) (by omega) ?_
    exact same_ok (sw many (by omega)) hK
  refine seq_to (X E N3 (some (.d .non)) none none none none none [Bx ds (j + 1)]) (fun K hK => hK) ?_
  let D5 := (List.range 5).find? (nextB es)
  refine seq_mid (fun m => ∃ z5 z6 z7, m = X E N3 (some (.d (onat ((List.range 5).find? (nextB es))))) z5 z6 z7 none none [Bx ds (j + 1)]) (fun K hK => ?_) ?_
  · refine ⟨⟨by decide, by decide⟩, range_inv (fun k lo m => 0 ≤ lo ∧ lo + k = 5 ∧ ∃ z5 z6 z7, m = X E N3 (some (.d (onat ((List.range lo.toNat).find? (nextB es))))) z5 z6 z7 none none [Bx ds (j + 1)]) ?_ ?_ 5 0 _ ⟨Int.le_refl _, rfl, none, none, none, rfl⟩⟩
    · rintro k lo _ K2 hK2 ⟨l0, l1, z5, z6, z7, rfl⟩
      obtain ⟨i, rfl⟩ : ∃ i : Nat, lo = (i : Int) := ⟨lo.toNat, by omega⟩
      rw [Int.toNat_natCast]
      let I : Option Vl := some (.d (.int (i : Int)))
      let D : Option Vl := some (.d (onat ((List.range i).find? (nextB es))))
      let W : Option Vl := some (.d (.lst ((ways es i).map hpD)))
      let V : Option Vl := some (.d (.lst ((ways es (i + 1)).map hpD)))
      refine seq_to (X E N3 D I W z7 none none [Bx ds (j + 1)]) (fun K hK => way_ok (N := i) R (by decide) (by omega) (by omega) hK) ?_
      refine seq_to (X E N3 D I W V none none [Bx ds (j + 1)]) (fun K hK => ?_) ?_
      · exact way_ok (N := i + 1) R (by decide) (by omega) (by omega) hK
      have next : ∀ z, (z = onat ((List.range (i + 1)).find? (nextB es))) → K2 (X E N3 (some (.d z)) I W V none none [Bx ds (j + 1)]) := fun z hz => by
        refine hK2 _ ⟨by omega, by omega, I, W, V, ?_⟩
        rw [hz, show ((i : Int) + 1).toNat = i + 1 by omega]
      have hw := R.hzw (k := i) (by omega)
      have hv := R.hzw (k := i + 1) (by omega)
      have wl := ways_len es i
      have wl1 := ways_len es (i + 1)
      have w2 : (i + 1) * (2 * es.length) ≤ 5 * 10 := Nat.mul_le_mul (by omega) (by omega)
      have w3 : i * (2 * es.length) ≤ 5 * 10 := Nat.mul_le_mul (by omega) (by omega)
      have pgw : ∀ g ∈ ways es i, B.Pg g := fun g hg => ⟨(hw g hg).2.1, (hw g hg).2.2, B.HZ.le (hw g hg).1 (by decide)⟩
      have pgv : ∀ g ∈ ways es (i + 1), B.Pg g := fun g hg => ⟨(hv g hg).2.1, (hv g hg).2.2, B.HZ.le (hv g hg).1 (by decide)⟩
      have rs : (List.range (i + 1)).find? (nextB es) = ((List.range i).find? (nextB es)).or (if nextB es i = true then some i else none) := by
        rw [List.range_succ, List.find?_append, List.find?_cons, List.find?_nil]
        cases nextB es i <;> rfl
      cases hD : (List.range i).find? (nextB es) with
      | some d =>
        rw [hD, Option.some_or] at rs
        refine guard_end (fun m => m = X E N3 D I W V none none [Bx ds (j + 1)]) (fun K hK => ?_) ?_
        · show if isN (onat ((List.range i).find? (nextB es))) = true then _ else _
          rw [hD]
          exact hK _ rfl
        · rintro _ rfl
          exact next _ (by rw [rs, hD])
      | none =>
        rw [hD, Option.none_or] at rs
        have tst : ∀ K : Bool → M → Prop, K (nextB es i) (X E N3 D I W V none none [Bx ds (j + 1)]) → dAnd (dTest (dIsN (dVar 4))) (dTest (dOp RT.rEq (dLc false (dAny (dVar 7)) (.nm 10) (dNot (dTru (dCall PG.sp__law_implied [] (dCons (dVar 6) (dCons (dVar 10) dNil))))) (dC (.int 1)) [10]) (dLst dNil))) (X E N3 D I W V none none [Bx ds (j + 1)]) K := fun K hK => by
          show if isN (onat ((List.range i).find? (nextB es))) = true then _ else _
          rw [hD]
          show if true = true then _ else _
          rw [if_pos rfl]
          refine filt_map (f := hpD) (h := fun _ => Dt.int 1) (p := fun g => !impB (ways es i) g) (ways es (i + 1)) [] (fun g hg P hP => B.limplied_ok pgw (pgv g hg) (by omega) hP) (fun g _ C hC => hC) (by rw [List.length_nil]; omega) ?_
          refine ⟨Nat.zero_le _, sh_ok (n := 1) (sh_lst (all_map fun _ _ => sh_int)), sh_ok (n := 1) (sh_lst all_nil), ?_⟩
          rw [List.nil_append]
          show K (eqD (.lst (((ways es (i + 1)).filter fun g => !impB (ways es i) g).map fun _ => Dt.int 1)) (.lst [])) _
          rw [eqD_ones2, more_eq fun g hg => (hw g hg).2.1]
          exact hK
        cases hn : nextB es i with
        | true =>
          rw [hn, if_pos rfl] at rs
          refine ifs_t (X E N3 D I W V none none [Bx ds (j + 1)]) (fun K hK => tst K (by rw [hn]; exact hK)) ?_
          exact next (.int (i : Int)) (by rw [rs]; rfl)
        | false =>
          rw [hn, if_neg (by decide)] at rs
          refine guard_end (fun m => m = X E N3 D I W V none none [Bx ds (j + 1)]) (fun K hK => tst K (by rw [hn]; exact hK _ rfl)) ?_
          rintro _ rfl
          exact next _ (by rw [rs, hD])
    · rintro lo _ ⟨l0, l1, z5, z6, z7, rfl⟩
      exact hK _ ⟨z5, z6, z7, by rw [show lo.toNat = 5 by omega]⟩
  rintro _ ⟨z5, z6, z7, rfl⟩
  refine seq_mid (fun m => ∃ most : Nat, most ≤ 4 ∧ m = X E N3 (some (.d (onat ((List.range 5).find? (nextB es))))) z5 z6 z7 (some (.d (.int (most : Int)))) none [Bx ds (j + 2)]) (fun K hK => ?_) ?_
  · refine draw2_ok (k := 0) (i := j + 1) (ds := ds) rfl (by decide) (by omega) fun a a0 a1 => ?_
    refine hK _ ⟨a.toNat, by omega, ?_⟩
    rw [Int.toNat_of_nonneg a0]
    rfl
  rintro _ ⟨most, hmost, rfl⟩
  let N8 : Option Vl := some (.d (.int (most : Int)))
  have ef : firstN es most = ((List.range 5).find? (nextB es)).bind fun d => if most < d then none else some d := first_of hmost
  refine seq_to (X E N3 (some (.d (onat (firstN es most)))) z5 z6 z7 N8 none [Bx ds (j + 2)]) (fun K hK => ?_) ?_
  · cases hD : (List.range 5).find? (nextB es) with
    | none =>
      rw [hD] at ef
      rw [ef] at hK
      exact hK
    | some d =>
      rw [hD] at ef
      have ef : firstN es most = if most < d then none else some d := ef
      refine ⟨trivial, ?_⟩
      show if decide ((most : Int) < (d : Int)) = true then _ else _
      refine ifd (fun c => ?_) fun c => ?_
      · rw [ef, if_pos (by omega)] at hK
        exact hK
      · rw [ef, if_neg (by omega)] at hK
        exact hK
  have fle : ∀ n, firstN es most = some n → n ≤ 1000 := fun n hn => by
    unfold firstN at hn
    have := List.mem_range.mp (List.mem_of_find?_eq_some hn)
    omega
  refine guard_st (X E N3 (some (.d (onat (firstN es most)))) z5 z6 z7 N8 none [Bx ds (j + 2)]) (fun K hK => ?_) ?_
  · refine settled_ok (N := most) R (by decide) (by omega) (by omega) (by
      have : most * (2 * es.length) ≤ 4 * 10 := Nat.mul_le_mul hmost (by omega)
      omega) ?_
    exact same_ok (shows_onat fle) hK
  refine seq_to (X E N3 (some (.d (onat (firstN es most)))) z5 z6 z7 N8 (some (.d (.lst ((ways es 1).map hpD)))) [Bx ds (j + 2)]) (fun K hK => way_ok (N := 1) R (by decide) (by omega) (by omega) hK) ?_
  refine kept_ok R (by decide) (by omega) (by omega) ?_
  refine way_ok (N := 2) R (by decide) (by omega) (by omega) ?_
  have hw := R.hzw (k := 1) (by omega)
  have hv := R.hzw (k := 2) (by omega)
  have wl := ways_len es 1
  have wl1 := ways_len es 2
  have pgw : ∀ g ∈ ways es 1, B.Pg g := fun g hg => ⟨(hw g hg).2.1, (hw g hg).2.2, B.HZ.le (hw g hg).1 (by decide)⟩
  have pgv : ∀ g ∈ ways es 2, B.Pg g := fun g hg => ⟨(hv g hg).2.1, (hv g hg).2.2, B.HZ.le (hv g hg).1 (by decide)⟩
  refine filt_map (f := hpD) (h := fun _ => Dt.int 1) (p := fun g => !impB (ways es 1) g) (ways es 2) [] (fun g hg P hP => B.limplied_ok pgw (pgv g hg) (by omega) hP) (fun g _ C hC => hC) (by rw [List.length_nil]; omega) ?_
  refine ⟨Nat.zero_le _, sh_ok (n := 1) (sh_lst (all_map fun _ _ => sh_int)), sh_ok (n := 1) (sh_lst all_nil), ?_⟩
  rw [List.nil_append]
  show sp__law_same [.d (.bl (nextB es 1)), .d (.bl (eqD (.lst (((ways es 2).filter fun g => !impB (ways es 1) g).map fun _ => Dt.int 1)) (.lst [])))] _ _
  rw [eqD_ones2, more_eq fun g hg => (hw g hg).2.1]
  exact same_ok (B.shows_bl _) rfl
end C
theorem law_k54 : RT.LawD 63 sp_law_40 := C.law_k54
end PG

set_option maxRecDepth 100000
set_option maxHeartbeats 4000000
namespace K54
open PySem PySem.Spec PyProof.Rows L2 RT

def top (i : Nat) : Stmt := PySem.Challenge.pw_raytrain_k54_settled_trains.main.body.getD i (.Pass ⟨0, 0, 0, 0⟩)
abbrev s_common_divisor : Stmt := top 3
abbrev s_fraction : Stmt := top 4
abbrev s_add : Stmt := top 5
abbrev s_negative : Stmt := top 6
abbrev s_subtract : Stmt := top 7
abbrev s_multiply : Stmt := top 8
abbrev s_divide : Stmt := top 9
abbrev s_sign : Stmt := top 10
abbrev s_compare : Stmt := top 11
abbrev s_is_less : Stmt := top 12
abbrev s_least_of : Stmt := top 13
abbrev s_element_map : Stmt := top 16
abbrev s_weighted : Stmt := top 17
abbrev s_compose_maps : Stmt := top 18
abbrev s_invert_map : Stmt := top 19
abbrev s_ray_transfer : Stmt := top 20
abbrev s_make_half_plane : Stmt := top 25
abbrev s_edges_of : Stmt := top 26
abbrev s_half_planes_of : Stmt := top 27
abbrev s_determinant : Stmt := top 28
abbrev s_product : Stmt := top 29
abbrev s_opposite_weights : Stmt := top 30
abbrev s_triple_weights : Stmt := top 31
abbrev s_opposing_sets : Stmt := top 32
abbrev s_number_of : Stmt := top 33
abbrev s_is_empty : Stmt := top 34
abbrev s_single_bound : Stmt := top 35
abbrev s_pair_weights : Stmt := top 36
abbrev s_pair_bound : Stmt := top 37
abbrev s_supremum : Stmt := top 38
abbrev s_map_half_planes : Stmt := top 39
abbrev s_is_implied : Stmt := top 41
abbrev s_planes_of : Stmt := top 43
abbrev s_power_of : Stmt := top 45
abbrev s_pass_planes : Stmt := top 46
abbrev s_holds_next : Stmt := top 47
abbrev s_settled : Stmt := top 48
abbrev s_is_kept : Stmt := top 49
abbrev s__law_cell : Stmt := top 51
abbrev s__law_row : Stmt := top 52
abbrev s__law_box : Stmt := top 53
abbrev s__law_draw : Stmt := top 54
abbrev s__law_same : Stmt := top 55
abbrev s__law_frac : Stmt := top 56
abbrev s__law_add : Stmt := top 57
abbrev s__law_neg : Stmt := top 58
abbrev s__law_sub : Stmt := top 59
abbrev s__law_mul : Stmt := top 60
abbrev s__law_div : Stmt := top 61
abbrev s__law_less : Stmt := top 62
abbrev s__law_least : Stmt := top 63
abbrev s__law_greatest : Stmt := top 64
abbrev s__law_fraction : Stmt := top 65
abbrev s__law_stop : Stmt := top 66
abbrev s__law_go : Stmt := top 67
abbrev s__law_out : Stmt := top 68
abbrev s__law_map : Stmt := top 69
abbrev s__law_plane : Stmt := top 70
abbrev s__law_edges : Stmt := top 71
abbrev s__law_line : Stmt := top 72
abbrev s__law_bounds : Stmt := top 73
abbrev s__law_implied : Stmt := top 74
abbrev s__law_cavity : Stmt := top 75
abbrev s__law_way : Stmt := top 76
abbrev s_law : Stmt := top 77
def dd_common_divisor : He.DefD := ⟨("common_divisor", none), "common_divisor", "common_divisor", defArgs s_common_divisor, defBody s_common_divisor, defScope s_common_divisor, [], []⟩
def dd_fraction : He.DefD := ⟨("fraction", none), "fraction", "fraction", defArgs s_fraction, defBody s_fraction, defScope s_fraction, [.int 1], []⟩
def dd_add : He.DefD := ⟨("add", none), "add", "add", defArgs s_add, defBody s_add, defScope s_add, [], []⟩
def dd_negative : He.DefD := ⟨("negative", none), "negative", "negative", defArgs s_negative, defBody s_negative, defScope s_negative, [], []⟩
def dd_subtract : He.DefD := ⟨("subtract", none), "subtract", "subtract", defArgs s_subtract, defBody s_subtract, defScope s_subtract, [], []⟩
def dd_multiply : He.DefD := ⟨("multiply", none), "multiply", "multiply", defArgs s_multiply, defBody s_multiply, defScope s_multiply, [], []⟩
def dd_divide : He.DefD := ⟨("divide", none), "divide", "divide", defArgs s_divide, defBody s_divide, defScope s_divide, [], []⟩
def dd_sign : He.DefD := ⟨("sign", none), "sign", "sign", defArgs s_sign, defBody s_sign, defScope s_sign, [], []⟩
def dd_compare : He.DefD := ⟨("compare", none), "compare", "compare", defArgs s_compare, defBody s_compare, defScope s_compare, [], []⟩
def dd_is_less : He.DefD := ⟨("is_less", none), "is_less", "is_less", defArgs s_is_less, defBody s_is_less, defScope s_is_less, [], []⟩
def dd_least_of : He.DefD := ⟨("least_of", none), "least_of", "least_of", defArgs s_least_of, defBody s_least_of, defScope s_least_of, [], []⟩
def dd_element_map : He.DefD := ⟨("element_map", none), "element_map", "element_map", defArgs s_element_map, defBody s_element_map, defScope s_element_map, [], []⟩
def dd_weighted : He.DefD := ⟨("weighted", none), "weighted", "weighted", defArgs s_weighted, defBody s_weighted, defScope s_weighted, [], []⟩
def dd_compose_maps : He.DefD := ⟨("compose_maps", none), "compose_maps", "compose_maps", defArgs s_compose_maps, defBody s_compose_maps, defScope s_compose_maps, [], []⟩
def dd_invert_map : He.DefD := ⟨("invert_map", none), "invert_map", "invert_map", defArgs s_invert_map, defBody s_invert_map, defScope s_invert_map, [], []⟩
def dd_ray_transfer : He.DefD := ⟨("ray_transfer", none), "ray_transfer", "ray_transfer", defArgs s_ray_transfer, defBody s_ray_transfer, defScope s_ray_transfer, [], []⟩
def dd_make_half_plane : He.DefD := ⟨("make_half_plane", none), "make_half_plane", "make_half_plane", defArgs s_make_half_plane, defBody s_make_half_plane, defScope s_make_half_plane, [], []⟩
def dd_edges_of : He.DefD := ⟨("edges_of", none), "edges_of", "edges_of", defArgs s_edges_of, defBody s_edges_of, defScope s_edges_of, [], []⟩
def dd_half_planes_of : He.DefD := ⟨("half_planes_of", none), "half_planes_of", "half_planes_of", defArgs s_half_planes_of, defBody s_half_planes_of, defScope s_half_planes_of, [], []⟩
def dd_determinant : He.DefD := ⟨("determinant", none), "determinant", "determinant", defArgs s_determinant, defBody s_determinant, defScope s_determinant, [], []⟩
def dd_product : He.DefD := ⟨("product", none), "product", "product", defArgs s_product, defBody s_product, defScope s_product, [], []⟩
def dd_opposite_weights : He.DefD := ⟨("opposite_weights", none), "opposite_weights", "opposite_weights", defArgs s_opposite_weights, defBody s_opposite_weights, defScope s_opposite_weights, [], []⟩
def dd_triple_weights : He.DefD := ⟨("triple_weights", none), "triple_weights", "triple_weights", defArgs s_triple_weights, defBody s_triple_weights, defScope s_triple_weights, [], []⟩
def dd_opposing_sets : He.DefD := ⟨("opposing_sets", none), "opposing_sets", "opposing_sets", defArgs s_opposing_sets, defBody s_opposing_sets, defScope s_opposing_sets, [], []⟩
def dd_number_of : He.DefD := ⟨("number_of", none), "number_of", "number_of", defArgs s_number_of, defBody s_number_of, defScope s_number_of, [], []⟩
def dd_is_empty : He.DefD := ⟨("is_empty", none), "is_empty", "is_empty", defArgs s_is_empty, defBody s_is_empty, defScope s_is_empty, [], []⟩
def dd_single_bound : He.DefD := ⟨("single_bound", none), "single_bound", "single_bound", defArgs s_single_bound, defBody s_single_bound, defScope s_single_bound, [], []⟩
def dd_pair_weights : He.DefD := ⟨("pair_weights", none), "pair_weights", "pair_weights", defArgs s_pair_weights, defBody s_pair_weights, defScope s_pair_weights, [], []⟩
def dd_pair_bound : He.DefD := ⟨("pair_bound", none), "pair_bound", "pair_bound", defArgs s_pair_bound, defBody s_pair_bound, defScope s_pair_bound, [], []⟩
def dd_supremum : He.DefD := ⟨("supremum", none), "supremum", "supremum", defArgs s_supremum, defBody s_supremum, defScope s_supremum, [], []⟩
def dd_map_half_planes : He.DefD := ⟨("map_half_planes", none), "map_half_planes", "map_half_planes", defArgs s_map_half_planes, defBody s_map_half_planes, defScope s_map_half_planes, [], []⟩
def dd_is_implied : He.DefD := ⟨("is_implied", none), "is_implied", "is_implied", defArgs s_is_implied, defBody s_is_implied, defScope s_is_implied, [], []⟩
def dd_planes_of : He.DefD := ⟨("planes_of", none), "planes_of", "planes_of", defArgs s_planes_of, defBody s_planes_of, defScope s_planes_of, [], []⟩
def dd_power_of : He.DefD := ⟨("power_of", none), "power_of", "power_of", defArgs s_power_of, defBody s_power_of, defScope s_power_of, [], []⟩
def dd_pass_planes : He.DefD := ⟨("pass_planes", none), "pass_planes", "pass_planes", defArgs s_pass_planes, defBody s_pass_planes, defScope s_pass_planes, [], []⟩
def dd_holds_next : He.DefD := ⟨("holds_next", none), "holds_next", "holds_next", defArgs s_holds_next, defBody s_holds_next, defScope s_holds_next, [], []⟩
def dd_settled : He.DefD := ⟨("settled", none), "settled", "settled", defArgs s_settled, defBody s_settled, defScope s_settled, [], []⟩
def dd_is_kept : He.DefD := ⟨("is_kept", none), "is_kept", "is_kept", defArgs s_is_kept, defBody s_is_kept, defScope s_is_kept, [], []⟩
def dd__law_cell : He.DefD := ⟨("_law_cell", none), "_law_cell", "_law_cell", defArgs s__law_cell, defBody s__law_cell, defScope s__law_cell, [], []⟩
def dd__law_row : He.DefD := ⟨("_law_row", none), "_law_row", "_law_row", defArgs s__law_row, defBody s__law_row, defScope s__law_row, [], []⟩
def dd__law_box : He.DefD := ⟨("_law_box", none), "_law_box", "_law_box", defArgs s__law_box, defBody s__law_box, defScope s__law_box, [], []⟩
def dd__law_draw : He.DefD := ⟨("_law_draw", none), "_law_draw", "_law_draw", defArgs s__law_draw, defBody s__law_draw, defScope s__law_draw, [], []⟩
def dd__law_same : He.DefD := ⟨("_law_same", none), "_law_same", "_law_same", defArgs s__law_same, defBody s__law_same, defScope s__law_same, [], []⟩
def dd__law_frac : He.DefD := ⟨("_law_frac", none), "_law_frac", "_law_frac", defArgs s__law_frac, defBody s__law_frac, defScope s__law_frac, [], []⟩
def dd__law_add : He.DefD := ⟨("_law_add", none), "_law_add", "_law_add", defArgs s__law_add, defBody s__law_add, defScope s__law_add, [], []⟩
def dd__law_neg : He.DefD := ⟨("_law_neg", none), "_law_neg", "_law_neg", defArgs s__law_neg, defBody s__law_neg, defScope s__law_neg, [], []⟩
def dd__law_sub : He.DefD := ⟨("_law_sub", none), "_law_sub", "_law_sub", defArgs s__law_sub, defBody s__law_sub, defScope s__law_sub, [], []⟩
def dd__law_mul : He.DefD := ⟨("_law_mul", none), "_law_mul", "_law_mul", defArgs s__law_mul, defBody s__law_mul, defScope s__law_mul, [], []⟩
def dd__law_div : He.DefD := ⟨("_law_div", none), "_law_div", "_law_div", defArgs s__law_div, defBody s__law_div, defScope s__law_div, [], []⟩
def dd__law_less : He.DefD := ⟨("_law_less", none), "_law_less", "_law_less", defArgs s__law_less, defBody s__law_less, defScope s__law_less, [], []⟩
def dd__law_least : He.DefD := ⟨("_law_least", none), "_law_least", "_law_least", defArgs s__law_least, defBody s__law_least, defScope s__law_least, [], []⟩
def dd__law_greatest : He.DefD := ⟨("_law_greatest", none), "_law_greatest", "_law_greatest", defArgs s__law_greatest, defBody s__law_greatest, defScope s__law_greatest, [], []⟩
def dd__law_fraction : He.DefD := ⟨("_law_fraction", none), "_law_fraction", "_law_fraction", defArgs s__law_fraction, defBody s__law_fraction, defScope s__law_fraction, [], []⟩
def dd__law_stop : He.DefD := ⟨("_law_stop", none), "_law_stop", "_law_stop", defArgs s__law_stop, defBody s__law_stop, defScope s__law_stop, [], []⟩
def dd__law_go : He.DefD := ⟨("_law_go", none), "_law_go", "_law_go", defArgs s__law_go, defBody s__law_go, defScope s__law_go, [], []⟩
def dd__law_out : He.DefD := ⟨("_law_out", none), "_law_out", "_law_out", defArgs s__law_out, defBody s__law_out, defScope s__law_out, [], []⟩
def dd__law_map : He.DefD := ⟨("_law_map", none), "_law_map", "_law_map", defArgs s__law_map, defBody s__law_map, defScope s__law_map, [], []⟩
def dd__law_plane : He.DefD := ⟨("_law_plane", none), "_law_plane", "_law_plane", defArgs s__law_plane, defBody s__law_plane, defScope s__law_plane, [], []⟩
def dd__law_edges : He.DefD := ⟨("_law_edges", none), "_law_edges", "_law_edges", defArgs s__law_edges, defBody s__law_edges, defScope s__law_edges, [], []⟩
def dd__law_line : He.DefD := ⟨("_law_line", none), "_law_line", "_law_line", defArgs s__law_line, defBody s__law_line, defScope s__law_line, [], []⟩
def dd__law_bounds : He.DefD := ⟨("_law_bounds", none), "_law_bounds", "_law_bounds", defArgs s__law_bounds, defBody s__law_bounds, defScope s__law_bounds, [], []⟩
def dd__law_implied : He.DefD := ⟨("_law_implied", none), "_law_implied", "_law_implied", defArgs s__law_implied, defBody s__law_implied, defScope s__law_implied, [], []⟩
def dd__law_cavity : He.DefD := ⟨("_law_cavity", none), "_law_cavity", "_law_cavity", defArgs s__law_cavity, defBody s__law_cavity, defScope s__law_cavity, [], []⟩
def dd__law_way : He.DefD := ⟨("_law_way", none), "_law_way", "_law_way", defArgs s__law_way, defBody s__law_way, defScope s__law_way, [], []⟩
def dd_law : He.DefD := ⟨("law", none), "law", "law", defArgs s_law, defBody s_law, defScope s_law, [], []⟩
def fn : List He.DefD := [dd_common_divisor, dd_fraction, dd_add, dd_negative, dd_subtract, dd_multiply, dd_divide, dd_sign, dd_compare, dd_is_less, dd_least_of, dd_element_map, dd_weighted, dd_compose_maps, dd_invert_map, dd_ray_transfer, dd_make_half_plane, dd_edges_of, dd_half_planes_of, dd_determinant, dd_product, dd_opposite_weights, dd_triple_weights, dd_opposing_sets, dd_number_of, dd_is_empty, dd_single_bound, dd_pair_weights, dd_pair_bound, dd_supremum, dd_map_half_planes, dd_is_implied, dd_planes_of, dd_power_of, dd_pass_planes, dd_holds_next, dd_settled, dd_is_kept, dd__law_cell, dd__law_row, dd__law_box, dd__law_draw, dd__law_same, dd__law_frac, dd__law_add, dd__law_neg, dd__law_sub, dd__law_mul, dd__law_div, dd__law_less, dd__law_least, dd__law_greatest, dd__law_fraction, dd__law_stop, dd__law_go, dd__law_out, dd__law_map, dd__law_plane, dd__law_edges, dd__law_line, dd__law_bounds, dd__law_implied, dd__law_cavity, dd__law_way, dd_law]
def fa : List He.Fa := [.glo "common_divisor", .glo "fraction", .glo "add", .glo "negative", .glo "subtract", .glo "multiply", .glo "divide", .glo "sign", .glo "compare", .glo "is_less", .glo "least_of", .glo "element_map", .glo "weighted", .glo "compose_maps", .glo "invert_map", .glo "ray_transfer", .glo "make_half_plane", .glo "edges_of", .glo "half_planes_of", .glo "determinant", .glo "product", .glo "opposite_weights", .glo "triple_weights", .glo "opposing_sets", .glo "number_of", .glo "is_empty", .glo "single_bound", .glo "pair_weights", .glo "pair_bound", .glo "supremum", .glo "map_half_planes", .glo "is_implied", .glo "planes_of", .glo "power_of", .glo "pass_planes", .glo "holds_next", .glo "settled", .glo "is_kept", .glo "_law_cell", .glo "_law_row", .glo "_law_box", .glo "_law_draw", .glo "_law_same", .glo "_law_frac", .glo "_law_add", .glo "_law_neg", .glo "_law_sub", .glo "_law_mul", .glo "_law_div", .glo "_law_less", .glo "_law_least", .glo "_law_greatest", .glo "_law_fraction", .glo "_law_stop", .glo "_law_go", .glo "_law_out", .glo "_law_map", .glo "_law_plane", .glo "_law_edges", .glo "_law_line", .glo "_law_bounds", .glo "_law_implied", .glo "_law_cavity", .glo "_law_way", .glo "law", .free "abs", .free "enumerate", .free "any", .free "tuple", .free "len", .free "range", .free "sum", .free "zip", .free "all", .free "int", .free "repr"]
def xb (K : PySem.W.Frag) : Bool := cstB K "ZERO" PG.v_ZERO && (cstB K "ONE" PG.v_ONE && (cstB K "IDENTITY" PG.v_IDENTITY && ((tabK K ("triple_weights", none)).isSome && ((tabK K ("is_empty", none)).isSome))))
section
variable {P : Program} {w : World} {K : PySem.W.Frag} {mg : Str → Option Value} {base : Heap}
theorem tb_triple_weights (hxb : xb K = true) : (tabK K ("triple_weights", none)).isSome = true := ((band (band (band (band hxb).2).2).2).1)
theorem tb_is_empty (hxb : xb K = true) : (tabK K ("is_empty", none)).isSome = true := ((band (band (band (band hxb).2).2).2).2)
theorem cst_ZERO (KX : K.In base) (GX : base.Ns mainGlobals mg) (c : He.SaysD fa fn K) (hxb : xb K = true) : CstG K mg "ZERO" PG.v_ZERO := cst_of KX GX ((band hxb).1)
theorem cst_ONE (KX : K.In base) (GX : base.Ns mainGlobals mg) (c : He.SaysD fa fn K) (hxb : xb K = true) : CstG K mg "ONE" PG.v_ONE := cst_of KX GX ((band (band hxb).2).1)
theorem cst_IDENTITY (KX : K.In base) (GX : base.Ns mainGlobals mg) (c : He.SaysD fa fn K) (hxb : xb K = true) : CstG K mg "IDENTITY" PG.v_IDENTITY := cst_of KX GX ((band (band (band hxb).2).2).1)
theorem sc_common_divisor : FnScope (["first", "second", "one", "other"] : List Str) (["first", "second"] : List Str) (defScope s_common_divisor) := ⟨rfl, rfl, rfl, by decide +kernel, rfl, by decide +kernel, by decide +kernel⟩
theorem d_common_divisor {X : Cx} (am : Amb 0 X) (hN : X.N.Nodup) (hc : X.calm = true) (hxe : PassesOwn (model X.prog X.w) X.A X.env X.xe) (eN : X.N = (["first", "second", "one", "other"] : List Str)) (eS : X.env.scope = defScope s_common_divisor) (hfn : ∀ x, X.fn x = true) (fr_abs : X.mg "abs" = none) : JSs X (defBody s_common_divisor) PG.w_common_divisor := by
  have hr := am.rm
  have n0 : X.N[0]? = some ("first" : Str) := by rw [eN]; rfl
  have v0 : SlotOk X 0 "first" := slot_of eS eN hfn rfl (.inl rfl)
  have n1 : X.N[1]? = some ("second" : Str) := by rw [eN]; rfl
  have v1 : SlotOk X 1 "second" := slot_of eS eN hfn rfl (.inl rfl)
  have n2 : X.N[2]? = some ("one" : Str) := by rw [eN]; rfl
  have v2 : SlotOk X 2 "one" := slot_of eS eN hfn rfl (.inl rfl)
  have n3 : X.N[3]? = some ("other" : Str) := by rw [eN]; rfl
  have v3 : SlotOk X 3 "other" := slot_of eS eN hfn rfl (.inl rfl)
  have gl_abs : Gl X "abs" := gl_of eS rfl
  exact (js_cons (js_st hN v2 (je_bi b_abs gl_abs fr_abs RT.boot_abs (ja_cons (je_v v0) ja_nil)))
  (js_cons (js_st hN v3 (je_bi b_abs gl_abs fr_abs RT.boot_abs (ja_cons (je_v v1) ja_nil)))
  (js_cons (js_while hxe (jt_cmp o_gt (je_v v3) je_int (nomark _))
  (js_one (js_par (i := 2) (j := 3) hc hN n2 n3 (by decide) (by rw [eS]; rfl) (by rw [eS]; rfl) (ja_cons (je_v v3) (ja_cons (je_op o_mod (je_v v2) (je_v v3)) ja_nil)) (swap_ok (by rw [eS]; rfl) (by rw [eS]; rfl) (by rw [eS]; rfl) (by decide) rfl rfl rfl (by decide +kernel) (by decide +kernel)))))
  (js_one (js_ret (je_v v2))))))
theorem g_common_divisor (KX : K.In base) (GX : base.Ns mainGlobals mg) (c : He.SaysD fa fn K) (hxb : xb K = true) (hns : BaseOk K mg base) (htr : P.given.tree = none) : FnG P w K mg base "common_divisor" 1 PG.sp_common_divisor [] := by
  obtain ⟨fd, F⟩ := c.def_ 0 (d := dd_common_divisor) rfl
  unfold PG.sp_common_divisor
  exact mkG (N := (["first", "second", "one", "other"] : List Str)) false hns htr F (He.glo_ok KX GX (c.fact 0 (f := .glo "common_divisor") rfl)) sc_common_divisor rfl rfl (fun _ _ _ _ _ _ us hl => match us, hl with | [_, _], _ => rfl) (fun X cdv A outer s H E hX hcd am => by subst hX; exact d_common_divisor am sc_common_divisor.nd rfl PassesOwn.never rfl rfl (fun _ => rfl) (He.free_ok KX GX (c.fact 65 (f := .free "abs") rfl)))

theorem sc_fraction : FnScope (["numerator", "denominator", "divisor"] : List Str) (["numerator", "denominator"] : List Str) (defScope s_fraction) := ⟨rfl, rfl, rfl, by decide +kernel, rfl, by decide +kernel, by decide +kernel⟩
theorem d_fraction {X : Cx} (am : Amb 1 X) (hN : X.N.Nodup) (hc : X.calm = true) (hxe : PassesOwn (model X.prog X.w) X.A X.env X.xe) (eN : X.N = (["numerator", "denominator", "divisor"] : List Str)) (eS : X.env.scope = defScope s_fraction) (hfn : ∀ x, X.fn x = true) (G_common_divisor : FnG X.prog X.w X.K X.mg X.base "common_divisor" 1 PG.sp_common_divisor []) : JSs X (defBody s_fraction) PG.w_fraction := by
  have hr := am.rm
  have n0 : X.N[0]? = some ("numerator" : Str) := by rw [eN]; rfl
  have v0 : SlotOk X 0 "numerator" := slot_of eS eN hfn rfl (.inl rfl)
  have n1 : X.N[1]? = some ("denominator" : Str) := by rw [eN]; rfl
  have v1 : SlotOk X 1 "denominator" := slot_of eS eN hfn rfl (.inl rfl)
  have n2 : X.N[2]? = some ("divisor" : Str) := by rw [eN]; rfl
  have v2 : SlotOk X 2 "divisor" := slot_of eS eN hfn rfl (.inl rfl)
  have gl_common_divisor : Gl X "common_divisor" := gl_of eS rfl
  exact (js_cons (js_st hN v2 (je_cg G_common_divisor hr gl_common_divisor (ja_cons (je_v v0) (ja_cons (je_v v1) ja_nil))))
  (js_cons (js_if (jt_cmp o_lt (je_v v1) je_int (nomark _))
  (js_one (js_st hN v2 (je_neg (je_v v2))))
  js_nil)
  (js_one (js_ret (je_tup (ja_cons (je_op (o_fdiv am.py) (je_v v0) (je_v v2)) (ja_cons (je_op (o_fdiv am.py) (je_v v1) (je_v v2)) ja_nil)))))))
theorem g_fraction (KX : K.In base) (GX : base.Ns mainGlobals mg) (c : He.SaysD fa fn K) (hxb : xb K = true) (hns : BaseOk K mg base) (htr : P.given.tree = none) : FnG P w K mg base "fraction" 2 PG.sp_fraction [] ∧ FnG P w K mg base "fraction" 2 PG.sp_fraction [.d (.int 1)] := by
  obtain ⟨fd, F⟩ := c.def_ 1 (d := dd_fraction) rfl
  unfold PG.sp_fraction
  exact mkGd (N := (["numerator", "denominator", "divisor"] : List Str)) (i := 1) false hns htr F (He.glo_ok KX GX (c.fact 1 (f := .glo "fraction") rfl)) sc_fraction rfl rfl (fun T kV doc pm an cdv ct us its hu hi => match us, hu, its, hi with | [_, _], _, [_], _ => ⟨_, rfl, rfl⟩) (fun T kV doc pm an cdv ct us its hu hi => match us, hu, its, hi with | [_], _, [_], _ => ⟨_, rfl, rfl⟩) (fun X cdv A outer s H E hX hcd am => by subst hX; exact d_fraction am sc_fraction.nd rfl PassesOwn.never rfl rfl (fun _ => rfl) (g_common_divisor (P := P) (w := w) KX GX c hxb hns htr))

theorem sc_add : FnScope (["first", "second"] : List Str) (["first", "second"] : List Str) (defScope s_add) := ⟨rfl, rfl, rfl, by decide +kernel, rfl, by decide +kernel, by decide +kernel⟩
theorem d_add {X : Cx} (am : Amb 2 X) (hN : X.N.Nodup) (hc : X.calm = true) (hxe : PassesOwn (model X.prog X.w) X.A X.env X.xe) (eN : X.N = (["first", "second"] : List Str)) (eS : X.env.scope = defScope s_add) (hfn : ∀ x, X.fn x = true) (G_fraction : FnG X.prog X.w X.K X.mg X.base "fraction" 2 PG.sp_fraction []) : JSs X (defBody s_add) PG.w_add := by
  have hr := am.rm
  have n0 : X.N[0]? = some ("first" : Str) := by rw [eN]; rfl
  have v0 : SlotOk X 0 "first" := slot_of eS eN hfn rfl (.inl rfl)
  have n1 : X.N[1]? = some ("second" : Str) := by rw [eN]; rfl
  have v1 : SlotOk X 1 "second" := slot_of eS eN hfn rfl (.inl rfl)
  have gl_fraction : Gl X "fraction" := gl_of eS rfl
  exact (js_one (js_ret (je_cg G_fraction hr gl_fraction (ja_cons (je_op o_addA (je_op o_mul (je_ix (je_v v0) je_int) (je_ix (je_v v1) je_int)) (je_op o_mul (je_ix (je_v v1) je_int) (je_ix (je_v v0) je_int))) (ja_cons (je_op o_mul (je_ix (je_v v0) je_int) (je_ix (je_v v1) je_int)) ja_nil)))))
theorem g_add (KX : K.In base) (GX : base.Ns mainGlobals mg) (c : He.SaysD fa fn K) (hxb : xb K = true) (hns : BaseOk K mg base) (htr : P.given.tree = none) : FnG P w K mg base "add" 3 PG.sp_add [] := by
  obtain ⟨fd, F⟩ := c.def_ 2 (d := dd_add) rfl
  unfold PG.sp_add
  exact mkG (N := (["first", "second"] : List Str)) false hns htr F (He.glo_ok KX GX (c.fact 2 (f := .glo "add") rfl)) sc_add rfl rfl (fun _ _ _ _ _ _ us hl => match us, hl with | [_, _], _ => rfl) (fun X cdv A outer s H E hX hcd am => by subst hX; exact d_add am sc_add.nd rfl PassesOwn.never rfl rfl (fun _ => rfl) (g_fraction (P := P) (w := w) KX GX c hxb hns htr).1)

theorem sc_negative : FnScope (["value"] : List Str) (["value"] : List Str) (defScope s_negative) := ⟨rfl, rfl, rfl, by decide +kernel, rfl, by decide +kernel, by decide +kernel⟩
theorem d_negative {X : Cx} (am : Amb 0 X) (hN : X.N.Nodup) (hc : X.calm = true) (hxe : PassesOwn (model X.prog X.w) X.A X.env X.xe) (eN : X.N = (["value"] : List Str)) (eS : X.env.scope = defScope s_negative) (hfn : ∀ x, X.fn x = true) : JSs X (defBody s_negative) PG.w_negative := by
  have hr := am.rm
  have n0 : X.N[0]? = some ("value" : Str) := by rw [eN]; rfl
  have v0 : SlotOk X 0 "value" := slot_of eS eN hfn rfl (.inl rfl)
  exact (js_one (js_ret (je_tup (ja_cons (je_neg (je_ix (je_v v0) je_int)) (ja_cons (je_ix (je_v v0) je_int) ja_nil)))))
theorem g_negative (KX : K.In base) (GX : base.Ns mainGlobals mg) (c : He.SaysD fa fn K) (hxb : xb K = true) (hns : BaseOk K mg base) (htr : P.given.tree = none) : FnG P w K mg base "negative" 1 PG.sp_negative [] := by
  obtain ⟨fd, F⟩ := c.def_ 3 (d := dd_negative) rfl
  unfold PG.sp_negative
  exact mkG (N := (["value"] : List Str)) false hns htr F (He.glo_ok KX GX (c.fact 3 (f := .glo "negative") rfl)) sc_negative rfl rfl (fun _ _ _ _ _ _ us hl => match us, hl with | [_], _ => rfl) (fun X cdv A outer s H E hX hcd am => by subst hX; exact d_negative am sc_negative.nd rfl PassesOwn.never rfl rfl (fun _ => rfl))

theorem sc_subtract : FnScope (["first", "second"] : List Str) (["first", "second"] : List Str) (defScope s_subtract) := ⟨rfl, rfl, rfl, by decide +kernel, rfl, by decide +kernel, by decide +kernel⟩
theorem d_subtract {X : Cx} (am : Amb 3 X) (hN : X.N.Nodup) (hc : X.calm = true) (hxe : PassesOwn (model X.prog X.w) X.A X.env X.xe) (eN : X.N = (["first", "second"] : List Str)) (eS : X.env.scope = defScope s_subtract) (hfn : ∀ x, X.fn x = true) (G_negative : FnG X.prog X.w X.K X.mg X.base "negative" 1 PG.sp_negative []) (G_add : FnG X.prog X.w X.K X.mg X.base "add" 3 PG.sp_add []) : JSs X (defBody s_subtract) PG.w_subtract := by
  have hr := am.rm
  have n0 : X.N[0]? = some ("first" : Str) := by rw [eN]; rfl
  have v0 : SlotOk X 0 "first" := slot_of eS eN hfn rfl (.inl rfl)
  have n1 : X.N[1]? = some ("second" : Str) := by rw [eN]; rfl
  have v1 : SlotOk X 1 "second" := slot_of eS eN hfn rfl (.inl rfl)
  have gl_negative : Gl X "negative" := gl_of eS rfl
  have gl_add : Gl X "add" := gl_of eS rfl
  exact (js_one (js_ret (je_cg G_add hr gl_add (ja_cons (je_v v0) (ja_cons (je_cg G_negative hr gl_negative (ja_cons (je_v v1) ja_nil)) ja_nil)))))
theorem g_subtract (KX : K.In base) (GX : base.Ns mainGlobals mg) (c : He.SaysD fa fn K) (hxb : xb K = true) (hns : BaseOk K mg base) (htr : P.given.tree = none) : FnG P w K mg base "subtract" 4 PG.sp_subtract [] := by
  obtain ⟨fd, F⟩ := c.def_ 4 (d := dd_subtract) rfl
  unfold PG.sp_subtract
  exact mkG (N := (["first", "second"] : List Str)) false hns htr F (He.glo_ok KX GX (c.fact 4 (f := .glo "subtract") rfl)) sc_subtract rfl rfl (fun _ _ _ _ _ _ us hl => match us, hl with | [_, _], _ => rfl) (fun X cdv A outer s H E hX hcd am => by subst hX; exact d_subtract am sc_subtract.nd rfl PassesOwn.never rfl rfl (fun _ => rfl) (g_negative (P := P) (w := w) KX GX c hxb hns htr) (g_add (P := P) (w := w) KX GX c hxb hns htr))

theorem sc_multiply : FnScope (["first", "second"] : List Str) (["first", "second"] : List Str) (defScope s_multiply) := ⟨rfl, rfl, rfl, by decide +kernel, rfl, by decide +kernel, by decide +kernel⟩
theorem d_multiply {X : Cx} (am : Amb 2 X) (hN : X.N.Nodup) (hc : X.calm = true) (hxe : PassesOwn (model X.prog X.w) X.A X.env X.xe) (eN : X.N = (["first", "second"] : List Str)) (eS : X.env.scope = defScope s_multiply) (hfn : ∀ x, X.fn x = true) (G_fraction : FnG X.prog X.w X.K X.mg X.base "fraction" 2 PG.sp_fraction []) : JSs X (defBody s_multiply) PG.w_multiply := by
  have hr := am.rm
  have n0 : X.N[0]? = some ("first" : Str) := by rw [eN]; rfl
  have v0 : SlotOk X 0 "first" := slot_of eS eN hfn rfl (.inl rfl)
  have n1 : X.N[1]? = some ("second" : Str) := by rw [eN]; rfl
  have v1 : SlotOk X 1 "second" := slot_of eS eN hfn rfl (.inl rfl)
  have gl_fraction : Gl X "fraction" := gl_of eS rfl
  exact (js_one (js_ret (je_cg G_fraction hr gl_fraction (ja_cons (je_op o_mul (je_ix (je_v v0) je_int) (je_ix (je_v v1) je_int)) (ja_cons (je_op o_mul (je_ix (je_v v0) je_int) (je_ix (je_v v1) je_int)) ja_nil)))))
theorem g_multiply (KX : K.In base) (GX : base.Ns mainGlobals mg) (c : He.SaysD fa fn K) (hxb : xb K = true) (hns : BaseOk K mg base) (htr : P.given.tree = none) : FnG P w K mg base "multiply" 3 PG.sp_multiply [] := by
  obtain ⟨fd, F⟩ := c.def_ 5 (d := dd_multiply) rfl
  unfold PG.sp_multiply
  exact mkG (N := (["first", "second"] : List Str)) false hns htr F (He.glo_ok KX GX (c.fact 5 (f := .glo "multiply") rfl)) sc_multiply rfl rfl (fun _ _ _ _ _ _ us hl => match us, hl with | [_, _], _ => rfl) (fun X cdv A outer s H E hX hcd am => by subst hX; exact d_multiply am sc_multiply.nd rfl PassesOwn.never rfl rfl (fun _ => rfl) (g_fraction (P := P) (w := w) KX GX c hxb hns htr).1)

theorem sc_divide : FnScope (["first", "second"] : List Str) (["first", "second"] : List Str) (defScope s_divide) := ⟨rfl, rfl, rfl, by decide +kernel, rfl, by decide +kernel, by decide +kernel⟩
theorem d_divide {X : Cx} (am : Amb 2 X) (hN : X.N.Nodup) (hc : X.calm = true) (hxe : PassesOwn (model X.prog X.w) X.A X.env X.xe) (eN : X.N = (["first", "second"] : List Str)) (eS : X.env.scope = defScope s_divide) (hfn : ∀ x, X.fn x = true) (G_fraction : FnG X.prog X.w X.K X.mg X.base "fraction" 2 PG.sp_fraction []) : JSs X (defBody s_divide) PG.w_divide := by
  have hr := am.rm
  have n0 : X.N[0]? = some ("first" : Str) := by rw [eN]; rfl
  have v0 : SlotOk X 0 "first" := slot_of eS eN hfn rfl (.inl rfl)
  have n1 : X.N[1]? = some ("second" : Str) := by rw [eN]; rfl
  have v1 : SlotOk X 1 "second" := slot_of eS eN hfn rfl (.inl rfl)
  have gl_fraction : Gl X "fraction" := gl_of eS rfl
  exact (js_one (js_ret (je_cg G_fraction hr gl_fraction (ja_cons (je_op o_mul (je_ix (je_v v0) je_int) (je_ix (je_v v1) je_int)) (ja_cons (je_op o_mul (je_ix (je_v v0) je_int) (je_ix (je_v v1) je_int)) ja_nil)))))
theorem g_divide (KX : K.In base) (GX : base.Ns mainGlobals mg) (c : He.SaysD fa fn K) (hxb : xb K = true) (hns : BaseOk K mg base) (htr : P.given.tree = none) : FnG P w K mg base "divide" 3 PG.sp_divide [] := by
  obtain ⟨fd, F⟩ := c.def_ 6 (d := dd_divide) rfl
  unfold PG.sp_divide
  exact mkG (N := (["first", "second"] : List Str)) false hns htr F (He.glo_ok KX GX (c.fact 6 (f := .glo "divide") rfl)) sc_divide rfl rfl (fun _ _ _ _ _ _ us hl => match us, hl with | [_, _], _ => rfl) (fun X cdv A outer s H E hX hcd am => by subst hX; exact d_divide am sc_divide.nd rfl PassesOwn.never rfl rfl (fun _ => rfl) (g_fraction (P := P) (w := w) KX GX c hxb hns htr).1)

theorem sc_sign : FnScope (["value"] : List Str) (["value"] : List Str) (defScope s_sign) := ⟨rfl, rfl, rfl, by decide +kernel, rfl, by decide +kernel, by decide +kernel⟩
theorem d_sign {X : Cx} (am : Amb 0 X) (hN : X.N.Nodup) (hc : X.calm = true) (hxe : PassesOwn (model X.prog X.w) X.A X.env X.xe) (eN : X.N = (["value"] : List Str)) (eS : X.env.scope = defScope s_sign) (hfn : ∀ x, X.fn x = true) : JSs X (defBody s_sign) PG.w_sign := by
  have hr := am.rm
  have n0 : X.N[0]? = some ("value" : Str) := by rw [eN]; rfl
  have v0 : SlotOk X 0 "value" := slot_of eS eN hfn rfl (.inl rfl)
  exact (js_cons (js_if (jt_cmp o_gt (je_ix (je_v v0) je_int) je_int (nomark _))
  (js_one (js_ret je_int))
  js_nil)
  (js_cons (js_if (jt_cmp o_lt (je_ix (je_v v0) je_int) je_int (nomark _))
  (js_one (js_ret (je_neg je_int)))
  js_nil)
  (js_one (js_ret je_int))))
theorem g_sign (KX : K.In base) (GX : base.Ns mainGlobals mg) (c : He.SaysD fa fn K) (hxb : xb K = true) (hns : BaseOk K mg base) (htr : P.given.tree = none) : FnG P w K mg base "sign" 1 PG.sp_sign [] := by
  obtain ⟨fd, F⟩ := c.def_ 7 (d := dd_sign) rfl
  unfold PG.sp_sign
  exact mkG (N := (["value"] : List Str)) false hns htr F (He.glo_ok KX GX (c.fact 7 (f := .glo "sign") rfl)) sc_sign rfl rfl (fun _ _ _ _ _ _ us hl => match us, hl with | [_], _ => rfl) (fun X cdv A outer s H E hX hcd am => by subst hX; exact d_sign am sc_sign.nd rfl PassesOwn.never rfl rfl (fun _ => rfl))

theorem sc_compare : FnScope (["first", "second"] : List Str) (["first", "second"] : List Str) (defScope s_compare) := ⟨rfl, rfl, rfl, by decide +kernel, rfl, by decide +kernel, by decide +kernel⟩
theorem d_compare {X : Cx} (am : Amb 4 X) (hN : X.N.Nodup) (hc : X.calm = true) (hxe : PassesOwn (model X.prog X.w) X.A X.env X.xe) (eN : X.N = (["first", "second"] : List Str)) (eS : X.env.scope = defScope s_compare) (hfn : ∀ x, X.fn x = true) (G_subtract : FnG X.prog X.w X.K X.mg X.base "subtract" 4 PG.sp_subtract []) (G_sign : FnG X.prog X.w X.K X.mg X.base "sign" 1 PG.sp_sign []) : JSs X (defBody s_compare) PG.w_compare := by
  have hr := am.rm
  have n0 : X.N[0]? = some ("first" : Str) := by rw [eN]; rfl
  have v0 : SlotOk X 0 "first" := slot_of eS eN hfn rfl (.inl rfl)
  have n1 : X.N[1]? = some ("second" : Str) := by rw [eN]; rfl
  have v1 : SlotOk X 1 "second" := slot_of eS eN hfn rfl (.inl rfl)
  have gl_subtract : Gl X "subtract" := gl_of eS rfl
  have gl_sign : Gl X "sign" := gl_of eS rfl
  exact (js_one (js_ret (je_cg G_sign hr gl_sign (ja_cons (je_cg G_subtract hr gl_subtract (ja_cons (je_v v0) (ja_cons (je_v v1) ja_nil))) ja_nil))))
theorem g_compare (KX : K.In base) (GX : base.Ns mainGlobals mg) (c : He.SaysD fa fn K) (hxb : xb K = true) (hns : BaseOk K mg base) (htr : P.given.tree = none) : FnG P w K mg base "compare" 5 PG.sp_compare [] := by
  obtain ⟨fd, F⟩ := c.def_ 8 (d := dd_compare) rfl
  unfold PG.sp_compare
  exact mkG (N := (["first", "second"] : List Str)) false hns htr F (He.glo_ok KX GX (c.fact 8 (f := .glo "compare") rfl)) sc_compare rfl rfl (fun _ _ _ _ _ _ us hl => match us, hl with | [_, _], _ => rfl) (fun X cdv A outer s H E hX hcd am => by subst hX; exact d_compare am sc_compare.nd rfl PassesOwn.never rfl rfl (fun _ => rfl) (g_subtract (P := P) (w := w) KX GX c hxb hns htr) (g_sign (P := P) (w := w) KX GX c hxb hns htr))

theorem sc_is_less : FnScope (["first", "second"] : List Str) (["first", "second"] : List Str) (defScope s_is_less) := ⟨rfl, rfl, rfl, by decide +kernel, rfl, by decide +kernel, by decide +kernel⟩
theorem d_is_less {X : Cx} (am : Amb 5 X) (hN : X.N.Nodup) (hc : X.calm = true) (hxe : PassesOwn (model X.prog X.w) X.A X.env X.xe) (eN : X.N = (["first", "second"] : List Str)) (eS : X.env.scope = defScope s_is_less) (hfn : ∀ x, X.fn x = true) (G_compare : FnG X.prog X.w X.K X.mg X.base "compare" 5 PG.sp_compare []) : JSs X (defBody s_is_less) PG.w_is_less := by
  have hr := am.rm
  have n0 : X.N[0]? = some ("first" : Str) := by rw [eN]; rfl
  have v0 : SlotOk X 0 "first" := slot_of eS eN hfn rfl (.inl rfl)
  have n1 : X.N[1]? = some ("second" : Str) := by rw [eN]; rfl
  have v1 : SlotOk X 1 "second" := slot_of eS eN hfn rfl (.inl rfl)
  have gl_compare : Gl X "compare" := gl_of eS rfl
  exact (js_one (js_ret (je_cmp o_lt (je_cg G_compare hr gl_compare (ja_cons (je_v v0) (ja_cons (je_v v1) ja_nil))) je_int (nomark _))))
theorem g_is_less (KX : K.In base) (GX : base.Ns mainGlobals mg) (c : He.SaysD fa fn K) (hxb : xb K = true) (hns : BaseOk K mg base) (htr : P.given.tree = none) : FnG P w K mg base "is_less" 6 PG.sp_is_less [] := by
  obtain ⟨fd, F⟩ := c.def_ 9 (d := dd_is_less) rfl
  unfold PG.sp_is_less
  exact mkG (N := (["first", "second"] : List Str)) false hns htr F (He.glo_ok KX GX (c.fact 9 (f := .glo "is_less") rfl)) sc_is_less rfl rfl (fun _ _ _ _ _ _ us hl => match us, hl with | [_, _], _ => rfl) (fun X cdv A outer s H E hX hcd am => by subst hX; exact d_is_less am sc_is_less.nd rfl PassesOwn.never rfl rfl (fun _ => rfl) (g_compare (P := P) (w := w) KX GX c hxb hns htr))

theorem sc_least_of : FnScope (["values", "best", "value"] : List Str) (["values"] : List Str) (defScope s_least_of) := ⟨rfl, rfl, rfl, by decide +kernel, rfl, by decide +kernel, by decide +kernel⟩
theorem d_least_of {X : Cx} (am : Amb 6 X) (hN : X.N.Nodup) (hc : X.calm = true) (hxe : PassesOwn (model X.prog X.w) X.A X.env X.xe) (eN : X.N = (["values", "best", "value"] : List Str)) (eS : X.env.scope = defScope s_least_of) (hfn : ∀ x, X.fn x = true) (G_is_less : FnG X.prog X.w X.K X.mg X.base "is_less" 6 PG.sp_is_less []) : JSs X (defBody s_least_of) PG.w_least_of := by
  have hr := am.rm
  have n0 : X.N[0]? = some ("values" : Str) := by rw [eN]; rfl
  have v0 : SlotOk X 0 "values" := slot_of eS eN hfn rfl (.inl rfl)
  have n1 : X.N[1]? = some ("best" : Str) := by rw [eN]; rfl
  have v1 : SlotOk X 1 "best" := slot_of eS eN hfn rfl (.inl rfl)
  have n2 : X.N[2]? = some ("value" : Str) := by rw [eN]; rfl
  have v2 : SlotOk X 2 "value" := slot_of eS eN hfn rfl (.inl rfl)
  have gl_is_less : Gl X "is_less" := gl_of eS rfl
  exact (js_cons (js_st hN v1 je_non)
  (js_cons (js_for hxe hc (ji_any (je_v v0)) (jg_of (pg_v hN v2))
  (js_one (js_if (jw_pt (jw_and (jt_notN (je_v v2)) (jw_and1 (jw_pt (jw_or (jt_isN (je_v v1)) (jw_or1 (jt_tru (je_cg G_is_less hr gl_is_less (ja_cons (je_v v2) (ja_cons (je_v v1) ja_nil))))))))))
  (js_one (js_st hN v1 (je_v v2)))
  js_nil)))
  (js_one (js_ret (je_v v1)))))
theorem g_least_of (KX : K.In base) (GX : base.Ns mainGlobals mg) (c : He.SaysD fa fn K) (hxb : xb K = true) (hns : BaseOk K mg base) (htr : P.given.tree = none) : FnG P w K mg base "least_of" 7 PG.sp_least_of [] := by
  obtain ⟨fd, F⟩ := c.def_ 10 (d := dd_least_of) rfl
  unfold PG.sp_least_of
  exact mkG (N := (["values", "best", "value"] : List Str)) false hns htr F (He.glo_ok KX GX (c.fact 10 (f := .glo "least_of") rfl)) sc_least_of rfl rfl (fun _ _ _ _ _ _ us hl => match us, hl with | [_], _ => rfl) (fun X cdv A outer s H E hX hcd am => by subst hX; exact d_least_of am sc_least_of.nd rfl PassesOwn.never rfl rfl (fun _ => rfl) (g_is_less (P := P) (w := w) KX GX c hxb hns htr))

theorem sc_element_map : FnScope (["element"] : List Str) (["element"] : List Str) (defScope s_element_map) := ⟨rfl, rfl, rfl, by decide +kernel, rfl, by decide +kernel, by decide +kernel⟩
theorem d_element_map {X : Cx} (am : Amb 3 X) (hN : X.N.Nodup) (hc : X.calm = true) (hxe : PassesOwn (model X.prog X.w) X.A X.env X.xe) (eN : X.N = (["element"] : List Str)) (eS : X.env.scope = defScope s_element_map) (hfn : ∀ x, X.fn x = true) (G_multiply : FnG X.prog X.w X.K X.mg X.base "multiply" 3 PG.sp_multiply []) (G_negative : FnG X.prog X.w X.K X.mg X.base "negative" 1 PG.sp_negative []) (G_divide : FnG X.prog X.w X.K X.mg X.base "divide" 3 PG.sp_divide []) (C_ZERO : CstG X.K X.mg "ZERO" PG.v_ZERO) (C_ONE : CstG X.K X.mg "ONE" PG.v_ONE) (C_IDENTITY : CstG X.K X.mg "IDENTITY" PG.v_IDENTITY) : JSs X (defBody s_element_map) PG.w_element_map := by
  have hr := am.rm
  have n0 : X.N[0]? = some ("element" : Str) := by rw [eN]; rfl
  have v0 : SlotOk X 0 "element" := slot_of eS eN hfn rfl (.inl rfl)
  have gl_ZERO : Gl X "ZERO" := gl_of eS rfl
  have gl_ONE : Gl X "ONE" := gl_of eS rfl
  have gl_multiply : Gl X "multiply" := gl_of eS rfl
  have gl_negative : Gl X "negative" := gl_of eS rfl
  have gl_divide : Gl X "divide" := gl_of eS rfl
  have gl_IDENTITY : Gl X "IDENTITY" := gl_of eS rfl
  exact (js_cons (js_if (jt_cmp (o_eq hr) (je_ix (je_v v0) je_int) je_str (nomark _))
  (js_one (js_ret (je_tup (ja_cons (je_glob ⟨gl_ONE, C_ONE, by decide⟩) (ja_cons (je_ix (je_v v0) je_int) (ja_cons (je_glob ⟨gl_ZERO, C_ZERO, by decide⟩) (ja_cons (je_glob ⟨gl_ONE, C_ONE, by decide⟩) (ja_cons (je_glob ⟨gl_ZERO, C_ZERO, by decide⟩) (ja_cons (je_glob ⟨gl_ZERO, C_ZERO, by decide⟩) ja_nil)))))))))
  js_nil)
  (js_cons (js_if (jt_cmp (o_eq hr) (je_ix (je_v v0) je_int) je_str (nomark _))
  (js_one (js_ret (je_tup (ja_cons (je_glob ⟨gl_ONE, C_ONE, by decide⟩) (ja_cons (je_glob ⟨gl_ZERO, C_ZERO, by decide⟩) (ja_cons (je_cg G_negative hr gl_negative (ja_cons (je_ix (je_v v0) je_int) ja_nil)) (ja_cons (je_glob ⟨gl_ONE, C_ONE, by decide⟩) (ja_cons (je_glob ⟨gl_ZERO, C_ZERO, by decide⟩) (ja_cons (je_cg G_multiply hr gl_multiply (ja_cons (je_ix (je_v v0) je_int) (ja_cons (je_ix (je_v v0) je_int) ja_nil))) ja_nil)))))))))
  js_nil)
  (js_cons (js_if (jt_cmp (o_eq hr) (je_ix (je_v v0) je_int) je_str (nomark _))
  (js_one (js_ret (je_tup (ja_cons (je_glob ⟨gl_ONE, C_ONE, by decide⟩) (ja_cons (je_glob ⟨gl_ZERO, C_ZERO, by decide⟩) (ja_cons (je_glob ⟨gl_ZERO, C_ZERO, by decide⟩) (ja_cons (je_glob ⟨gl_ONE, C_ONE, by decide⟩) (ja_cons (je_glob ⟨gl_ZERO, C_ZERO, by decide⟩) (ja_cons (je_ix (je_v v0) je_int) ja_nil)))))))))
  js_nil)
  (js_cons (js_if (jt_cmp (o_eq hr) (je_ix (je_v v0) je_int) je_str (nomark _))
  (js_one (js_ret (je_tup (ja_cons (je_ix (je_v v0) je_int) (ja_cons (je_glob ⟨gl_ZERO, C_ZERO, by decide⟩) (ja_cons (je_glob ⟨gl_ZERO, C_ZERO, by decide⟩) (ja_cons (je_cg G_divide hr gl_divide (ja_cons (je_glob ⟨gl_ONE, C_ONE, by decide⟩) (ja_cons (je_ix (je_v v0) je_int) ja_nil))) (ja_cons (je_glob ⟨gl_ZERO, C_ZERO, by decide⟩) (ja_cons (je_glob ⟨gl_ZERO, C_ZERO, by decide⟩) ja_nil)))))))))
  js_nil)
  (js_one (js_ret (je_glob ⟨gl_IDENTITY, C_IDENTITY, by decide⟩)))))))
theorem g_element_map (KX : K.In base) (GX : base.Ns mainGlobals mg) (c : He.SaysD fa fn K) (hxb : xb K = true) (hns : BaseOk K mg base) (htr : P.given.tree = none) : FnG P w K mg base "element_map" 4 PG.sp_element_map [] := by
  obtain ⟨fd, F⟩ := c.def_ 11 (d := dd_element_map) rfl
  unfold PG.sp_element_map
  exact mkG (N := (["element"] : List Str)) false hns htr F (He.glo_ok KX GX (c.fact 11 (f := .glo "element_map") rfl)) sc_element_map rfl rfl (fun _ _ _ _ _ _ us hl => match us, hl with | [_], _ => rfl) (fun X cdv A outer s H E hX hcd am => by subst hX; exact d_element_map am sc_element_map.nd rfl PassesOwn.never rfl rfl (fun _ => rfl) (g_multiply (P := P) (w := w) KX GX c hxb hns htr) (g_negative (P := P) (w := w) KX GX c hxb hns htr) (g_divide (P := P) (w := w) KX GX c hxb hns htr) (cst_ZERO KX GX c hxb) (cst_ONE KX GX c hxb) (cst_IDENTITY KX GX c hxb))

theorem sc_weighted : FnScope (["first", "one", "second", "other"] : List Str) (["first", "one", "second", "other"] : List Str) (defScope s_weighted) := ⟨rfl, rfl, rfl, by decide +kernel, rfl, by decide +kernel, by decide +kernel⟩
theorem d_weighted {X : Cx} (am : Amb 3 X) (hN : X.N.Nodup) (hc : X.calm = true) (hxe : PassesOwn (model X.prog X.w) X.A X.env X.xe) (eN : X.N = (["first", "one", "second", "other"] : List Str)) (eS : X.env.scope = defScope s_weighted) (hfn : ∀ x, X.fn x = true) (G_multiply : FnG X.prog X.w X.K X.mg X.base "multiply" 3 PG.sp_multiply []) (G_add : FnG X.prog X.w X.K X.mg X.base "add" 3 PG.sp_add []) : JSs X (defBody s_weighted) PG.w_weighted := by
  have hr := am.rm
  have n0 : X.N[0]? = some ("first" : Str) := by rw [eN]; rfl
  have v0 : SlotOk X 0 "first" := slot_of eS eN hfn rfl (.inl rfl)
  have n1 : X.N[1]? = some ("one" : Str) := by rw [eN]; rfl
  have v1 : SlotOk X 1 "one" := slot_of eS eN hfn rfl (.inl rfl)
  have n2 : X.N[2]? = some ("second" : Str) := by rw [eN]; rfl
  have v2 : SlotOk X 2 "second" := slot_of eS eN hfn rfl (.inl rfl)
  have n3 : X.N[3]? = some ("other" : Str) := by rw [eN]; rfl
  have v3 : SlotOk X 3 "other" := slot_of eS eN hfn rfl (.inl rfl)
  have gl_multiply : Gl X "multiply" := gl_of eS rfl
  have gl_add : Gl X "add" := gl_of eS rfl
  exact (js_one (js_ret (je_cg G_add hr gl_add (ja_cons (je_cg G_multiply hr gl_multiply (ja_cons (je_v v0) (ja_cons (je_v v1) ja_nil))) (ja_cons (je_cg G_multiply hr gl_multiply (ja_cons (je_v v2) (ja_cons (je_v v3) ja_nil))) ja_nil)))))
theorem g_weighted (KX : K.In base) (GX : base.Ns mainGlobals mg) (c : He.SaysD fa fn K) (hxb : xb K = true) (hns : BaseOk K mg base) (htr : P.given.tree = none) : FnG P w K mg base "weighted" 4 PG.sp_weighted [] := by
  obtain ⟨fd, F⟩ := c.def_ 12 (d := dd_weighted) rfl
  unfold PG.sp_weighted
  exact mkG (N := (["first", "one", "second", "other"] : List Str)) false hns htr F (He.glo_ok KX GX (c.fact 12 (f := .glo "weighted") rfl)) sc_weighted rfl rfl (fun _ _ _ _ _ _ us hl => match us, hl with | [_, _, _, _], _ => rfl) (fun X cdv A outer s H E hX hcd am => by subst hX; exact d_weighted am sc_weighted.nd rfl PassesOwn.never rfl rfl (fun _ => rfl) (g_multiply (P := P) (w := w) KX GX c hxb hns htr) (g_add (P := P) (w := w) KX GX c hxb hns htr))

theorem sc_compose_maps : FnScope (["first", "second", "a", "b", "c", "d", "e", "f", "k", "m", "n", "o", "p", "q", "top", "bottom", "end"] : List Str) (["first", "second"] : List Str) (defScope s_compose_maps) := ⟨rfl, rfl, rfl, by decide +kernel, rfl, by decide +kernel, by decide +kernel⟩
theorem d_compose_maps {X : Cx} (am : Amb 4 X) (hN : X.N.Nodup) (hc : X.calm = true) (hxe : PassesOwn (model X.prog X.w) X.A X.env X.xe) (eN : X.N = (["first", "second", "a", "b", "c", "d", "e", "f", "k", "m", "n", "o", "p", "q", "top", "bottom", "end"] : List Str)) (eS : X.env.scope = defScope s_compose_maps) (hfn : ∀ x, X.fn x = true) (G_weighted : FnG X.prog X.w X.K X.mg X.base "weighted" 4 PG.sp_weighted []) (G_add : FnG X.prog X.w X.K X.mg X.base "add" 3 PG.sp_add []) : JSs X (defBody s_compose_maps) PG.w_compose_maps := by
  have hr := am.rm
  have n0 : X.N[0]? = some ("first" : Str) := by rw [eN]; rfl
  have v0 : SlotOk X 0 "first" := slot_of eS eN hfn rfl (.inl rfl)
  have n1 : X.N[1]? = some ("second" : Str) := by rw [eN]; rfl
  have v1 : SlotOk X 1 "second" := slot_of eS eN hfn rfl (.inl rfl)
  have n2 : X.N[2]? = some ("a" : Str) := by rw [eN]; rfl
  have v2 : SlotOk X 2 "a" := slot_of eS eN hfn rfl (.inl rfl)
  have n3 : X.N[3]? = some ("b" : Str) := by rw [eN]; rfl
  have v3 : SlotOk X 3 "b" := slot_of eS eN hfn rfl (.inl rfl)
  have n4 : X.N[4]? = some ("c" : Str) := by rw [eN]; rfl
  have v4 : SlotOk X 4 "c" := slot_of eS eN hfn rfl (.inl rfl)
  have n5 : X.N[5]? = some ("d" : Str) := by rw [eN]; rfl
  have v5 : SlotOk X 5 "d" := slot_of eS eN hfn rfl (.inl rfl)
  have n6 : X.N[6]? = some ("e" : Str) := by rw [eN]; rfl
  have v6 : SlotOk X 6 "e" := slot_of eS eN hfn rfl (.inl rfl)
  have n7 : X.N[7]? = some ("f" : Str) := by rw [eN]; rfl
  have v7 : SlotOk X 7 "f" := slot_of eS eN hfn rfl (.inl rfl)
  have n8 : X.N[8]? = some ("k" : Str) := by rw [eN]; rfl
  have v8 : SlotOk X 8 "k" := slot_of eS eN hfn rfl (.inl rfl)
  have n9 : X.N[9]? = some ("m" : Str) := by rw [eN]; rfl
  have v9 : SlotOk X 9 "m" := slot_of eS eN hfn rfl (.inl rfl)
  have n10 : X.N[10]? = some ("n" : Str) := by rw [eN]; rfl
  have v10 : SlotOk X 10 "n" := slot_of eS eN hfn rfl (.inl rfl)
  have n11 : X.N[11]? = some ("o" : Str) := by rw [eN]; rfl
  have v11 : SlotOk X 11 "o" := slot_of eS eN hfn rfl (.inl rfl)
  have n12 : X.N[12]? = some ("p" : Str) := by rw [eN]; rfl
  have v12 : SlotOk X 12 "p" := slot_of eS eN hfn rfl (.inl rfl)
  have n13 : X.N[13]? = some ("q" : Str) := by rw [eN]; rfl
  have v13 : SlotOk X 13 "q" := slot_of eS eN hfn rfl (.inl rfl)
  have n14 : X.N[14]? = some ("top" : Str) := by rw [eN]; rfl
  have v14 : SlotOk X 14 "top" := slot_of eS eN hfn rfl (.inl rfl)
  have n15 : X.N[15]? = some ("bottom" : Str) := by rw [eN]; rfl
  have v15 : SlotOk X 15 "bottom" := slot_of eS eN hfn rfl (.inl rfl)
  have n16 : X.N[16]? = some ("end" : Str) := by rw [eN]; rfl
  have v16 : SlotOk X 16 "end" := slot_of eS eN hfn rfl (.inl rfl)
  have gl_weighted : Gl X "weighted" := gl_of eS rfl
  have gl_add : Gl X "add" := gl_of eS rfl
  exact (js_cons (js_asg (je_v v0) (jg_of (pg_tup hc (pgs_cons (pg_v hN v2) (pgs_cons (pg_v hN v3) (pgs_cons (pg_v hN v4) (pgs_cons (pg_v hN v5) (pgs_cons (pg_v hN v6) (pgs_cons (pg_v hN v7) pgs_nil)))))))))
  (js_cons (js_asg (je_v v1) (jg_of (pg_tup hc (pgs_cons (pg_v hN v8) (pgs_cons (pg_v hN v9) (pgs_cons (pg_v hN v10) (pgs_cons (pg_v hN v11) (pgs_cons (pg_v hN v12) (pgs_cons (pg_v hN v13) pgs_nil)))))))))
  (js_cons (js_st hN v14 (je_tup (ja_cons (je_cg G_weighted hr gl_weighted (ja_cons (je_v v8) (ja_cons (je_v v2) (ja_cons (je_v v9) (ja_cons (je_v v4) ja_nil))))) (ja_cons (je_cg G_weighted hr gl_weighted (ja_cons (je_v v8) (ja_cons (je_v v3) (ja_cons (je_v v9) (ja_cons (je_v v5) ja_nil))))) ja_nil))))
  (js_cons (js_st hN v15 (je_tup (ja_cons (je_cg G_weighted hr gl_weighted (ja_cons (je_v v10) (ja_cons (je_v v2) (ja_cons (je_v v11) (ja_cons (je_v v4) ja_nil))))) (ja_cons (je_cg G_weighted hr gl_weighted (ja_cons (je_v v10) (ja_cons (je_v v3) (ja_cons (je_v v11) (ja_cons (je_v v5) ja_nil))))) ja_nil))))
  (js_cons (js_st hN v16 (je_tup (ja_cons (je_cg G_add hr gl_add (ja_cons (je_cg G_weighted hr gl_weighted (ja_cons (je_v v8) (ja_cons (je_v v6) (ja_cons (je_v v9) (ja_cons (je_v v7) ja_nil))))) (ja_cons (je_v v12) ja_nil))) (ja_cons (je_cg G_add hr gl_add (ja_cons (je_cg G_weighted hr gl_weighted (ja_cons (je_v v10) (ja_cons (je_v v6) (ja_cons (je_v v11) (ja_cons (je_v v7) ja_nil))))) (ja_cons (je_v v13) ja_nil))) ja_nil))))
  (js_one (js_ret (je_op o_addA (je_op o_addA (je_v v14) (je_v v15)) (je_v v16)))))))))
theorem g_compose_maps (KX : K.In base) (GX : base.Ns mainGlobals mg) (c : He.SaysD fa fn K) (hxb : xb K = true) (hns : BaseOk K mg base) (htr : P.given.tree = none) : FnG P w K mg base "compose_maps" 5 PG.sp_compose_maps [] := by
  obtain ⟨fd, F⟩ := c.def_ 13 (d := dd_compose_maps) rfl
  unfold PG.sp_compose_maps
  exact mkG (N := (["first", "second", "a", "b", "c", "d", "e", "f", "k", "m", "n", "o", "p", "q", "top", "bottom", "end"] : List Str)) false hns htr F (He.glo_ok KX GX (c.fact 13 (f := .glo "compose_maps") rfl)) sc_compose_maps rfl rfl (fun _ _ _ _ _ _ us hl => match us, hl with | [_, _], _ => rfl) (fun X cdv A outer s H E hX hcd am => by subst hX; exact d_compose_maps am sc_compose_maps.nd rfl PassesOwn.never rfl rfl (fun _ => rfl) (g_weighted (P := P) (w := w) KX GX c hxb hns htr) (g_add (P := P) (w := w) KX GX c hxb hns htr))

theorem sc_invert_map : FnScope (["map_used", "a", "b", "c", "d", "e", "f", "end"] : List Str) (["map_used"] : List Str) (defScope s_invert_map) := ⟨rfl, rfl, rfl, by decide +kernel, rfl, by decide +kernel, by decide +kernel⟩
theorem d_invert_map {X : Cx} (am : Amb 4 X) (hN : X.N.Nodup) (hc : X.calm = true) (hxe : PassesOwn (model X.prog X.w) X.A X.env X.xe) (eN : X.N = (["map_used", "a", "b", "c", "d", "e", "f", "end"] : List Str)) (eS : X.env.scope = defScope s_invert_map) (hfn : ∀ x, X.fn x = true) (G_multiply : FnG X.prog X.w X.K X.mg X.base "multiply" 3 PG.sp_multiply []) (G_subtract : FnG X.prog X.w X.K X.mg X.base "subtract" 4 PG.sp_subtract []) (G_negative : FnG X.prog X.w X.K X.mg X.base "negative" 1 PG.sp_negative []) : JSs X (defBody s_invert_map) PG.w_invert_map := by
  have hr := am.rm
  have n0 : X.N[0]? = some ("map_used" : Str) := by rw [eN]; rfl
  have v0 : SlotOk X 0 "map_used" := slot_of eS eN hfn rfl (.inl rfl)
  have n1 : X.N[1]? = some ("a" : Str) := by rw [eN]; rfl
  have v1 : SlotOk X 1 "a" := slot_of eS eN hfn rfl (.inl rfl)
  have n2 : X.N[2]? = some ("b" : Str) := by rw [eN]; rfl
  have v2 : SlotOk X 2 "b" := slot_of eS eN hfn rfl (.inl rfl)
  have n3 : X.N[3]? = some ("c" : Str) := by rw [eN]; rfl
  have v3 : SlotOk X 3 "c" := slot_of eS eN hfn rfl (.inl rfl)
  have n4 : X.N[4]? = some ("d" : Str) := by rw [eN]; rfl
  have v4 : SlotOk X 4 "d" := slot_of eS eN hfn rfl (.inl rfl)
  have n5 : X.N[5]? = some ("e" : Str) := by rw [eN]; rfl
  have v5 : SlotOk X 5 "e" := slot_of eS eN hfn rfl (.inl rfl)
  have n6 : X.N[6]? = some ("f" : Str) := by rw [eN]; rfl
  have v6 : SlotOk X 6 "f" := slot_of eS eN hfn rfl (.inl rfl)
  have n7 : X.N[7]? = some ("end" : Str) := by rw [eN]; rfl
  have v7 : SlotOk X 7 "end" := slot_of eS eN hfn rfl (.inl rfl)
  have gl_multiply : Gl X "multiply" := gl_of eS rfl
  have gl_subtract : Gl X "subtract" := gl_of eS rfl
  have gl_negative : Gl X "negative" := gl_of eS rfl
  exact (js_cons (js_asg (je_v v0) (jg_of (pg_tup hc (pgs_cons (pg_v hN v1) (pgs_cons (pg_v hN v2) (pgs_cons (pg_v hN v3) (pgs_cons (pg_v hN v4) (pgs_cons (pg_v hN v5) (pgs_cons (pg_v hN v6) pgs_nil)))))))))
  (js_cons (js_st hN v7 (je_tup (ja_cons (je_cg G_subtract hr gl_subtract (ja_cons (je_cg G_multiply hr gl_multiply (ja_cons (je_v v2) (ja_cons (je_v v6) ja_nil))) (ja_cons (je_cg G_multiply hr gl_multiply (ja_cons (je_v v4) (ja_cons (je_v v5) ja_nil))) ja_nil))) (ja_cons (je_cg G_subtract hr gl_subtract (ja_cons (je_cg G_multiply hr gl_multiply (ja_cons (je_v v3) (ja_cons (je_v v5) ja_nil))) (ja_cons (je_cg G_multiply hr gl_multiply (ja_cons (je_v v1) (ja_cons (je_v v6) ja_nil))) ja_nil))) ja_nil))))
  (js_one (js_ret (je_op o_addA (je_tup (ja_cons (je_v v4) (ja_cons (je_cg G_negative hr gl_negative (ja_cons (je_v v2) ja_nil)) (ja_cons (je_cg G_negative hr gl_negative (ja_cons (je_v v3) ja_nil)) (ja_cons (je_v v1) ja_nil))))) (je_v v7))))))
theorem g_invert_map (KX : K.In base) (GX : base.Ns mainGlobals mg) (c : He.SaysD fa fn K) (hxb : xb K = true) (hns : BaseOk K mg base) (htr : P.given.tree = none) : FnG P w K mg base "invert_map" 5 PG.sp_invert_map [] := by
  obtain ⟨fd, F⟩ := c.def_ 14 (d := dd_invert_map) rfl
  unfold PG.sp_invert_map
  exact mkG (N := (["map_used", "a", "b", "c", "d", "e", "f", "end"] : List Str)) false hns htr F (He.glo_ok KX GX (c.fact 14 (f := .glo "invert_map") rfl)) sc_invert_map rfl rfl (fun _ _ _ _ _ _ us hl => match us, hl with | [_], _ => rfl) (fun X cdv A outer s H E hX hcd am => by subst hX; exact d_invert_map am sc_invert_map.nd rfl PassesOwn.never rfl rfl (fun _ => rfl) (g_multiply (P := P) (w := w) KX GX c hxb hns htr) (g_subtract (P := P) (w := w) KX GX c hxb hns htr) (g_negative (P := P) (w := w) KX GX c hxb hns htr))

theorem sc_ray_transfer : FnScope (["train", "found", "element"] : List Str) (["train"] : List Str) (defScope s_ray_transfer) := ⟨rfl, rfl, rfl, by decide +kernel, rfl, by decide +kernel, by decide +kernel⟩
theorem d_ray_transfer {X : Cx} (am : Amb 5 X) (hN : X.N.Nodup) (hc : X.calm = true) (hxe : PassesOwn (model X.prog X.w) X.A X.env X.xe) (eN : X.N = (["train", "found", "element"] : List Str)) (eS : X.env.scope = defScope s_ray_transfer) (hfn : ∀ x, X.fn x = true) (G_element_map : FnG X.prog X.w X.K X.mg X.base "element_map" 4 PG.sp_element_map []) (G_compose_maps : FnG X.prog X.w X.K X.mg X.base "compose_maps" 5 PG.sp_compose_maps []) (C_IDENTITY : CstG X.K X.mg "IDENTITY" PG.v_IDENTITY) : JSs X (defBody s_ray_transfer) PG.w_ray_transfer := by
  have hr := am.rm
  have n0 : X.N[0]? = some ("train" : Str) := by rw [eN]; rfl
  have v0 : SlotOk X 0 "train" := slot_of eS eN hfn rfl (.inl rfl)
  have n1 : X.N[1]? = some ("found" : Str) := by rw [eN]; rfl
  have v1 : SlotOk X 1 "found" := slot_of eS eN hfn rfl (.inl rfl)
  have n2 : X.N[2]? = some ("element" : Str) := by rw [eN]; rfl
  have v2 : SlotOk X 2 "element" := slot_of eS eN hfn rfl (.inl rfl)
  have gl_IDENTITY : Gl X "IDENTITY" := gl_of eS rfl
  have gl_element_map : Gl X "element_map" := gl_of eS rfl
  have gl_compose_maps : Gl X "compose_maps" := gl_of eS rfl
  exact (js_cons (js_st hN v1 (je_glob ⟨gl_IDENTITY, C_IDENTITY, by decide⟩))
  (js_cons (js_for hxe hc (ji_any (je_v v0)) (jg_of (pg_v hN v2))
  (js_one (js_st hN v1 (je_cg G_compose_maps hr gl_compose_maps (ja_cons (je_v v1) (ja_cons (je_cg G_element_map hr gl_element_map (ja_cons (je_v v2) ja_nil)) ja_nil))))))
  (js_one (js_ret (je_v v1)))))
theorem g_ray_transfer (KX : K.In base) (GX : base.Ns mainGlobals mg) (c : He.SaysD fa fn K) (hxb : xb K = true) (hns : BaseOk K mg base) (htr : P.given.tree = none) : FnG P w K mg base "ray_transfer" 6 PG.sp_ray_transfer [] := by
  obtain ⟨fd, F⟩ := c.def_ 15 (d := dd_ray_transfer) rfl
  unfold PG.sp_ray_transfer
  exact mkG (N := (["train", "found", "element"] : List Str)) false hns htr F (He.glo_ok KX GX (c.fact 15 (f := .glo "ray_transfer") rfl)) sc_ray_transfer rfl rfl (fun _ _ _ _ _ _ us hl => match us, hl with | [_], _ => rfl) (fun X cdv A outer s H E hX hcd am => by subst hX; exact d_ray_transfer am sc_ray_transfer.nd rfl PassesOwn.never rfl rfl (fun _ => rfl) (g_element_map (P := P) (w := w) KX GX c hxb hns htr) (g_compose_maps (P := P) (w := w) KX GX c hxb hns htr) (cst_IDENTITY KX GX c hxb))

theorem sc_make_half_plane : FnScope (["p", "q", "r", "scale", "parts", "divisor", "part"] : List Str) (["p", "q", "r"] : List Str) (defScope s_make_half_plane) := ⟨rfl, rfl, rfl, by decide +kernel, rfl, by decide +kernel, by decide +kernel⟩
theorem d_make_half_plane {X : Cx} (am : Amb 1 X) (hN : X.N.Nodup) (hc : X.calm = true) (hxe : PassesOwn (model X.prog X.w) X.A X.env X.xe) (eN : X.N = (["p", "q", "r", "scale", "parts", "divisor", "part"] : List Str)) (eS : X.env.scope = defScope s_make_half_plane) (hfn : ∀ x, X.fn x = true) (G_common_divisor : FnG X.prog X.w X.K X.mg X.base "common_divisor" 1 PG.sp_common_divisor []) (C_ZERO : CstG X.K X.mg "ZERO" PG.v_ZERO) : JSs X (defBody s_make_half_plane) PG.w_make_half_plane := by
  have hr := am.rm
  have n0 : X.N[0]? = some ("p" : Str) := by rw [eN]; rfl
  have v0 : SlotOk X 0 "p" := slot_of eS eN hfn rfl (.inl rfl)
  have n1 : X.N[1]? = some ("q" : Str) := by rw [eN]; rfl
  have v1 : SlotOk X 1 "q" := slot_of eS eN hfn rfl (.inl rfl)
  have n2 : X.N[2]? = some ("r" : Str) := by rw [eN]; rfl
  have v2 : SlotOk X 2 "r" := slot_of eS eN hfn rfl (.inl rfl)
  have n3 : X.N[3]? = some ("scale" : Str) := by rw [eN]; rfl
  have v3 : SlotOk X 3 "scale" := slot_of eS eN hfn rfl (.inr rfl)
  have n4 : X.N[4]? = some ("parts" : Str) := by rw [eN]; rfl
  have v4 : SlotOk X 4 "parts" := slot_of eS eN hfn rfl (.inl rfl)
  have n5 : X.N[5]? = some ("divisor" : Str) := by rw [eN]; rfl
  have v5 : SlotOk X 5 "divisor" := slot_of eS eN hfn rfl (.inl rfl)
  have n6 : X.N[6]? = some ("part" : Str) := by rw [eN]; rfl
  have gl_ZERO : Gl X "ZERO" := gl_of eS rfl
  have gl_common_divisor : Gl X "common_divisor" := gl_of eS rfl
  exact (js_cons (js_if (jw_pt (jw_and (jt_cmp (o_eq hr) (je_v v0) (je_glob ⟨gl_ZERO, C_ZERO, by decide⟩) (nomark _)) (jw_and1 (jt_cmp (o_eq hr) (je_v v1) (je_glob ⟨gl_ZERO, C_ZERO, by decide⟩) (nomark _)))))
  (js_one js_never)
  js_nil)
  (js_cons (js_st hN v3 (je_op o_mul (je_op o_mul (je_ix (je_v v0) je_int) (je_ix (je_v v1) je_int)) (je_ix (je_v v2) je_int)))
  (js_cons (js_setLc false (i := 4) (own' := [("part", 6)]) (by decide) hc hN n4 (by rw [eS]; rfl) (sw_true (by rw [eS]; rfl) (by rw [eS]; rfl) rfl (by decide +kernel)) (ji_any (je_tup (ja_cons (je_v v0) (ja_cons (je_v v1) (ja_cons (je_v v2) ja_nil))))) (blk_of eN eS (own := [("part", 6)]) (by decide +kernel)) (fun s H C cl fp => (jg_of (pg_name (i := 6) hN n6 (by first | exact .inl rfl | exact .inr rfl)))) (fun s H C cl fp => jts_nil) (fun s H C cl fp => (je_op o_mul (je_ix (je_var 6 n6 (hv := (by first | exact Or.inl rfl | exact Or.inr (Or.inl rfl) | exact vis_free (by decide +kernel)))) je_int) (je_op (o_fdiv am.py) (je_var 3 n3 (hv := vis_free (by decide +kernel))) (je_ix (je_var 6 n6 (hv := (by first | exact Or.inl rfl | exact Or.inr (Or.inl rfl) | exact vis_free (by decide +kernel)))) je_int)))))
  (js_cons (js_st hN v5 (je_cg G_common_divisor hr gl_common_divisor (ja_cons (je_cg G_common_divisor hr gl_common_divisor (ja_cons (je_ix (je_v v4) je_int) (ja_cons (je_ix (je_v v4) je_int) ja_nil))) (ja_cons (je_ix (je_v v4) je_int) ja_nil))))
  (js_one (js_ret (je_tup (ja_cons (je_op (o_fdiv am.py) (je_ix (je_v v4) je_int) (je_v v5)) (ja_cons (je_op (o_fdiv am.py) (je_ix (je_v v4) je_int) (je_v v5)) (ja_cons (je_op (o_fdiv am.py) (je_ix (je_v v4) je_int) (je_v v5)) ja_nil))))))))))
theorem g_make_half_plane (KX : K.In base) (GX : base.Ns mainGlobals mg) (c : He.SaysD fa fn K) (hxb : xb K = true) (hns : BaseOk K mg base) (htr : P.given.tree = none) : FnG P w K mg base "make_half_plane" 2 PG.sp_make_half_plane [] := by
  obtain ⟨fd, F⟩ := c.def_ 16 (d := dd_make_half_plane) rfl
  unfold PG.sp_make_half_plane
  exact mkG (N := (["p", "q", "r", "scale", "parts", "divisor", "part"] : List Str)) false hns htr F (He.glo_ok KX GX (c.fact 16 (f := .glo "make_half_plane") rfl)) sc_make_half_plane rfl rfl (fun _ _ _ _ _ _ us hl => match us, hl with | [_, _, _], _ => rfl) (fun X cdv A outer s H E hX hcd am => by subst hX; exact d_make_half_plane am sc_make_half_plane.nd rfl PassesOwn.never rfl rfl (fun _ => rfl) (g_common_divisor (P := P) (w := w) KX GX c hxb hns htr) (cst_ZERO KX GX c hxb))

theorem sc_edges_of : FnScope (["index", "stop", "map_before", "a", "b", "c", "d", "e", "f", "found"] : List Str) (["index", "stop", "map_before"] : List Str) (defScope s_edges_of) := ⟨rfl, rfl, rfl, by decide +kernel, rfl, by decide +kernel, by decide +kernel⟩
theorem d_edges_of {X : Cx} (am : Amb 4 X) (hN : X.N.Nodup) (hc : X.calm = true) (hxe : PassesOwn (model X.prog X.w) X.A X.env X.xe) (eN : X.N = (["index", "stop", "map_before", "a", "b", "c", "d", "e", "f", "found"] : List Str)) (eS : X.env.scope = defScope s_edges_of) (hfn : ∀ x, X.fn x = true) (G_subtract : FnG X.prog X.w X.K X.mg X.base "subtract" 4 PG.sp_subtract []) (G_negative : FnG X.prog X.w X.K X.mg X.base "negative" 1 PG.sp_negative []) (G_make_half_plane : FnG X.prog X.w X.K X.mg X.base "make_half_plane" 2 PG.sp_make_half_plane []) : JSs X (defBody s_edges_of) PG.w_edges_of := by
  have hr := am.rm
  have n0 : X.N[0]? = some ("index" : Str) := by rw [eN]; rfl
  have v0 : SlotOk X 0 "index" := slot_of eS eN hfn rfl (.inl rfl)
  have n1 : X.N[1]? = some ("stop" : Str) := by rw [eN]; rfl
  have v1 : SlotOk X 1 "stop" := slot_of eS eN hfn rfl (.inl rfl)
  have n2 : X.N[2]? = some ("map_before" : Str) := by rw [eN]; rfl
  have v2 : SlotOk X 2 "map_before" := slot_of eS eN hfn rfl (.inl rfl)
  have n3 : X.N[3]? = some ("a" : Str) := by rw [eN]; rfl
  have v3 : SlotOk X 3 "a" := slot_of eS eN hfn rfl (.inl rfl)
  have n4 : X.N[4]? = some ("b" : Str) := by rw [eN]; rfl
  have v4 : SlotOk X 4 "b" := slot_of eS eN hfn rfl (.inl rfl)
  have n5 : X.N[5]? = some ("c" : Str) := by rw [eN]; rfl
  have v5 : SlotOk X 5 "c" := slot_of eS eN hfn rfl (.inl rfl)
  have n6 : X.N[6]? = some ("d" : Str) := by rw [eN]; rfl
  have v6 : SlotOk X 6 "d" := slot_of eS eN hfn rfl (.inl rfl)
  have n7 : X.N[7]? = some ("e" : Str) := by rw [eN]; rfl
  have v7 : SlotOk X 7 "e" := slot_of eS eN hfn rfl (.inl rfl)
  have n8 : X.N[8]? = some ("f" : Str) := by rw [eN]; rfl
  have v8 : SlotOk X 8 "f" := slot_of eS eN hfn rfl (.inl rfl)
  have n9 : X.N[9]? = some ("found" : Str) := by rw [eN]; rfl
  have v9 : SlotOk X 9 "found" := slot_of eS eN hfn rfl (.inl rfl)
  have gl_subtract : Gl X "subtract" := gl_of eS rfl
  have gl_negative : Gl X "negative" := gl_of eS rfl
  have gl_make_half_plane : Gl X "make_half_plane" := gl_of eS rfl
  exact (js_cons (js_asg (je_v v2) (jg_of (pg_tup hc (pgs_cons (pg_v hN v3) (pgs_cons (pg_v hN v4) (pgs_cons (pg_v hN v5) (pgs_cons (pg_v hN v6) (pgs_cons (pg_v hN v7) (pgs_cons (pg_v hN v8) pgs_nil)))))))))
  (js_cons (js_st hN v9 (je_lstO ja_nil))
  (js_cons (js_if (jt_notN (je_ix (je_v v1) je_int))
  (js_one (js_do (je_meth PySem.F.slot_list_append PySem.F.type_list_append m_append (je_v v9) (ja_cons (je_tup (ja_cons (je_tup (ja_cons (je_v v0) (ja_cons je_str ja_nil))) (ja_cons (je_cg G_make_half_plane hr gl_make_half_plane (ja_cons (je_cg G_negative hr gl_negative (ja_cons (je_v v3) ja_nil)) (ja_cons (je_cg G_negative hr gl_negative (ja_cons (je_v v4) ja_nil)) (ja_cons (je_cg G_subtract hr gl_subtract (ja_cons (je_v v7) (ja_cons (je_ix (je_v v1) je_int) ja_nil))) ja_nil)))) ja_nil))) ja_nil))))
  js_nil)
  (js_cons (js_if (jt_notN (je_ix (je_v v1) je_int))
  (js_one (js_do (je_meth PySem.F.slot_list_append PySem.F.type_list_append m_append (je_v v9) (ja_cons (je_tup (ja_cons (je_tup (ja_cons (je_v v0) (ja_cons je_str ja_nil))) (ja_cons (je_cg G_make_half_plane hr gl_make_half_plane (ja_cons (je_v v3) (ja_cons (je_v v4) (ja_cons (je_cg G_subtract hr gl_subtract (ja_cons (je_ix (je_v v1) je_int) (ja_cons (je_v v7) ja_nil))) ja_nil)))) ja_nil))) ja_nil))))
  js_nil)
  (js_one (js_ret (je_v v9)))))))
theorem g_edges_of (KX : K.In base) (GX : base.Ns mainGlobals mg) (c : He.SaysD fa fn K) (hxb : xb K = true) (hns : BaseOk K mg base) (htr : P.given.tree = none) : FnG P w K mg base "edges_of" 5 PG.sp_edges_of [] := by
  obtain ⟨fd, F⟩ := c.def_ 17 (d := dd_edges_of) rfl
  unfold PG.sp_edges_of
  exact mkG (N := (["index", "stop", "map_before", "a", "b", "c", "d", "e", "f", "found"] : List Str)) false hns htr F (He.glo_ok KX GX (c.fact 17 (f := .glo "edges_of") rfl)) sc_edges_of rfl rfl (fun _ _ _ _ _ _ us hl => match us, hl with | [_, _, _], _ => rfl) (fun X cdv A outer s H E hX hcd am => by subst hX; exact d_edges_of am sc_edges_of.nd rfl PassesOwn.never rfl rfl (fun _ => rfl) (g_subtract (P := P) (w := w) KX GX c hxb hns htr) (g_negative (P := P) (w := w) KX GX c hxb hns htr) (g_make_half_plane (P := P) (w := w) KX GX c hxb hns htr))

theorem sc_half_planes_of : FnScope (["train", "found", "before", "index", "element"] : List Str) (["train"] : List Str) (defScope s_half_planes_of) := ⟨rfl, rfl, rfl, by decide +kernel, rfl, by decide +kernel, by decide +kernel⟩
theorem d_half_planes_of {X : Cx} (am : Amb 5 X) (hN : X.N.Nodup) (hc : X.calm = true) (hxe : PassesOwn (model X.prog X.w) X.A X.env X.xe) (eN : X.N = (["train", "found", "before", "index", "element"] : List Str)) (eS : X.env.scope = defScope s_half_planes_of) (hfn : ∀ x, X.fn x = true) (fr_enumerate : X.mg "enumerate" = none) (G_edges_of : FnG X.prog X.w X.K X.mg X.base "edges_of" 5 PG.sp_edges_of []) (G_element_map : FnG X.prog X.w X.K X.mg X.base "element_map" 4 PG.sp_element_map []) (G_compose_maps : FnG X.prog X.w X.K X.mg X.base "compose_maps" 5 PG.sp_compose_maps []) (C_IDENTITY : CstG X.K X.mg "IDENTITY" PG.v_IDENTITY) : JSs X (defBody s_half_planes_of) PG.w_half_planes_of := by
  have hr := am.rm
  have n0 : X.N[0]? = some ("train" : Str) := by rw [eN]; rfl
  have v0 : SlotOk X 0 "train" := slot_of eS eN hfn rfl (.inl rfl)
  have n1 : X.N[1]? = some ("found" : Str) := by rw [eN]; rfl
  have v1 : SlotOk X 1 "found" := slot_of eS eN hfn rfl (.inl rfl)
  have n2 : X.N[2]? = some ("before" : Str) := by rw [eN]; rfl
  have v2 : SlotOk X 2 "before" := slot_of eS eN hfn rfl (.inl rfl)
  have n3 : X.N[3]? = some ("index" : Str) := by rw [eN]; rfl
  have v3 : SlotOk X 3 "index" := slot_of eS eN hfn rfl (.inl rfl)
  have n4 : X.N[4]? = some ("element" : Str) := by rw [eN]; rfl
  have v4 : SlotOk X 4 "element" := slot_of eS eN hfn rfl (.inl rfl)
  have gl_IDENTITY : Gl X "IDENTITY" := gl_of eS rfl
  have gl_enumerate : Gl X "enumerate" := gl_of eS rfl
  have gl_edges_of : Gl X "edges_of" := gl_of eS rfl
  have gl_element_map : Gl X "element_map" := gl_of eS rfl
  have gl_compose_maps : Gl X "compose_maps" := gl_of eS rfl
  exact (js_cons (js_st hN v1 (je_lst ja_nil))
  (js_cons (js_st hN v2 (je_glob ⟨gl_IDENTITY, C_IDENTITY, by decide⟩))
  (js_cons (js_for hxe hc (ji_enum gl_enumerate fr_enumerate (ja_cons (je_v v0) ja_nil)) (jg_of (pg_tup hc (pgs_cons (pg_v hN v3) (pgs_cons (pg_v hN v4) pgs_nil))))
  (js_cons (js_if (jt_cmp (o_eq hr) (je_ix (je_v v4) je_int) je_str (nomark _))
  (js_one (js_st hN v1 (je_op o_addA (je_v v1) (je_cg G_edges_of hr gl_edges_of (ja_cons (je_v v3) (ja_cons (je_v v4) (ja_cons (je_v v2) ja_nil)))))))
  js_nil)
  (js_one (js_st hN v2 (je_cg G_compose_maps hr gl_compose_maps (ja_cons (je_v v2) (ja_cons (je_cg G_element_map hr gl_element_map (ja_cons (je_v v4) ja_nil)) ja_nil)))))))
  (js_one (js_ret (je_v v1))))))
theorem g_half_planes_of (KX : K.In base) (GX : base.Ns mainGlobals mg) (c : He.SaysD fa fn K) (hxb : xb K = true) (hns : BaseOk K mg base) (htr : P.given.tree = none) : FnG P w K mg base "half_planes_of" 6 PG.sp_half_planes_of [] := by
  obtain ⟨fd, F⟩ := c.def_ 18 (d := dd_half_planes_of) rfl
  unfold PG.sp_half_planes_of
  exact mkG (N := (["train", "found", "before", "index", "element"] : List Str)) false hns htr F (He.glo_ok KX GX (c.fact 18 (f := .glo "half_planes_of") rfl)) sc_half_planes_of rfl rfl (fun _ _ _ _ _ _ us hl => match us, hl with | [_], _ => rfl) (fun X cdv A outer s H E hX hcd am => by subst hX; exact d_half_planes_of am sc_half_planes_of.nd rfl PassesOwn.never rfl rfl (fun _ => rfl) (He.free_ok KX GX (c.fact 66 (f := .free "enumerate") rfl)) (g_edges_of (P := P) (w := w) KX GX c hxb hns htr) (g_element_map (P := P) (w := w) KX GX c hxb hns htr) (g_compose_maps (P := P) (w := w) KX GX c hxb hns htr) (cst_IDENTITY KX GX c hxb))

theorem sc_determinant : FnScope (["first", "second"] : List Str) (["first", "second"] : List Str) (defScope s_determinant) := ⟨rfl, rfl, rfl, by decide +kernel, rfl, by decide +kernel, by decide +kernel⟩
theorem d_determinant {X : Cx} (am : Amb 0 X) (hN : X.N.Nodup) (hc : X.calm = true) (hxe : PassesOwn (model X.prog X.w) X.A X.env X.xe) (eN : X.N = (["first", "second"] : List Str)) (eS : X.env.scope = defScope s_determinant) (hfn : ∀ x, X.fn x = true) : JSs X (defBody s_determinant) PG.w_determinant := by
  have hr := am.rm
  have n0 : X.N[0]? = some ("first" : Str) := by rw [eN]; rfl
  have v0 : SlotOk X 0 "first" := slot_of eS eN hfn rfl (.inl rfl)
  have n1 : X.N[1]? = some ("second" : Str) := by rw [eN]; rfl
  have v1 : SlotOk X 1 "second" := slot_of eS eN hfn rfl (.inl rfl)
  exact (js_one (js_ret (je_op o_sub (je_op o_mul (je_ix (je_v v0) je_int) (je_ix (je_v v1) je_int)) (je_op o_mul (je_ix (je_v v0) je_int) (je_ix (je_v v1) je_int)))))
theorem g_determinant (KX : K.In base) (GX : base.Ns mainGlobals mg) (c : He.SaysD fa fn K) (hxb : xb K = true) (hns : BaseOk K mg base) (htr : P.given.tree = none) : FnG P w K mg base "determinant" 1 PG.sp_determinant [] := by
  obtain ⟨fd, F⟩ := c.def_ 19 (d := dd_determinant) rfl
  unfold PG.sp_determinant
  exact mkG (N := (["first", "second"] : List Str)) false hns htr F (He.glo_ok KX GX (c.fact 19 (f := .glo "determinant") rfl)) sc_determinant rfl rfl (fun _ _ _ _ _ _ us hl => match us, hl with | [_, _], _ => rfl) (fun X cdv A outer s H E hX hcd am => by subst hX; exact d_determinant am sc_determinant.nd rfl PassesOwn.never rfl rfl (fun _ => rfl))

theorem sc_product : FnScope (["first", "second"] : List Str) (["first", "second"] : List Str) (defScope s_product) := ⟨rfl, rfl, rfl, by decide +kernel, rfl, by decide +kernel, by decide +kernel⟩
theorem d_product {X : Cx} (am : Amb 0 X) (hN : X.N.Nodup) (hc : X.calm = true) (hxe : PassesOwn (model X.prog X.w) X.A X.env X.xe) (eN : X.N = (["first", "second"] : List Str)) (eS : X.env.scope = defScope s_product) (hfn : ∀ x, X.fn x = true) : JSs X (defBody s_product) PG.w_product := by
  have hr := am.rm
  have n0 : X.N[0]? = some ("first" : Str) := by rw [eN]; rfl
  have v0 : SlotOk X 0 "first" := slot_of eS eN hfn rfl (.inl rfl)
  have n1 : X.N[1]? = some ("second" : Str) := by rw [eN]; rfl
  have v1 : SlotOk X 1 "second" := slot_of eS eN hfn rfl (.inl rfl)
  exact (js_one (js_ret (je_op o_addA (je_op o_mul (je_ix (je_v v0) je_int) (je_ix (je_v v1) je_int)) (je_op o_mul (je_ix (je_v v0) je_int) (je_ix (je_v v1) je_int)))))
theorem g_product (KX : K.In base) (GX : base.Ns mainGlobals mg) (c : He.SaysD fa fn K) (hxb : xb K = true) (hns : BaseOk K mg base) (htr : P.given.tree = none) : FnG P w K mg base "product" 1 PG.sp_product [] := by
  obtain ⟨fd, F⟩ := c.def_ 20 (d := dd_product) rfl
  unfold PG.sp_product
  exact mkG (N := (["first", "second"] : List Str)) false hns htr F (He.glo_ok KX GX (c.fact 20 (f := .glo "product") rfl)) sc_product rfl rfl (fun _ _ _ _ _ _ us hl => match us, hl with | [_, _], _ => rfl) (fun X cdv A outer s H E hX hcd am => by subst hX; exact d_product am sc_product.nd rfl PassesOwn.never rfl rfl (fun _ => rfl))

theorem sc_opposite_weights : FnScope (["first", "second", "one", "other", "divisor"] : List Str) (["first", "second"] : List Str) (defScope s_opposite_weights) := ⟨rfl, rfl, rfl, by decide +kernel, rfl, by decide +kernel, by decide +kernel⟩
theorem d_opposite_weights {X : Cx} (am : Amb 1 X) (hN : X.N.Nodup) (hc : X.calm = true) (hxe : PassesOwn (model X.prog X.w) X.A X.env X.xe) (eN : X.N = (["first", "second", "one", "other", "divisor"] : List Str)) (eS : X.env.scope = defScope s_opposite_weights) (hfn : ∀ x, X.fn x = true) (fr_abs : X.mg "abs" = none) (G_determinant : FnG X.prog X.w X.K X.mg X.base "determinant" 1 PG.sp_determinant []) (G_product : FnG X.prog X.w X.K X.mg X.base "product" 1 PG.sp_product []) (G_common_divisor : FnG X.prog X.w X.K X.mg X.base "common_divisor" 1 PG.sp_common_divisor []) : JSs X (defBody s_opposite_weights) PG.w_opposite_weights := by
  have hr := am.rm
  have n0 : X.N[0]? = some ("first" : Str) := by rw [eN]; rfl
  have v0 : SlotOk X 0 "first" := slot_of eS eN hfn rfl (.inl rfl)
  have n1 : X.N[1]? = some ("second" : Str) := by rw [eN]; rfl
  have v1 : SlotOk X 1 "second" := slot_of eS eN hfn rfl (.inl rfl)
  have n2 : X.N[2]? = some ("one" : Str) := by rw [eN]; rfl
  have v2 : SlotOk X 2 "one" := slot_of eS eN hfn rfl (.inl rfl)
  have n3 : X.N[3]? = some ("other" : Str) := by rw [eN]; rfl
  have v3 : SlotOk X 3 "other" := slot_of eS eN hfn rfl (.inl rfl)
  have n4 : X.N[4]? = some ("divisor" : Str) := by rw [eN]; rfl
  have v4 : SlotOk X 4 "divisor" := slot_of eS eN hfn rfl (.inl rfl)
  have gl_determinant : Gl X "determinant" := gl_of eS rfl
  have gl_product : Gl X "product" := gl_of eS rfl
  have gl_abs : Gl X "abs" := gl_of eS rfl
  have gl_common_divisor : Gl X "common_divisor" := gl_of eS rfl
  exact (js_cons (js_if (jw_pt (jw_or (jt_cmp (o_ne hr) (je_cg G_determinant hr gl_determinant (ja_cons (je_v v0) (ja_cons (je_v v1) ja_nil))) je_int (nomark _)) (jw_or1 (jt_cmp o_ge (je_cg G_product hr gl_product (ja_cons (je_v v0) (ja_cons (je_v v1) ja_nil))) je_int (nomark _)))))
  (js_one (js_ret je_non))
  js_nil)
  (js_cons (js_st hN v2 (je_op o_addA (je_bi b_abs gl_abs fr_abs RT.boot_abs (ja_cons (je_ix (je_v v1) je_int) ja_nil)) (je_bi b_abs gl_abs fr_abs RT.boot_abs (ja_cons (je_ix (je_v v1) je_int) ja_nil))))
  (js_cons (js_st hN v3 (je_op o_addA (je_bi b_abs gl_abs fr_abs RT.boot_abs (ja_cons (je_ix (je_v v0) je_int) ja_nil)) (je_bi b_abs gl_abs fr_abs RT.boot_abs (ja_cons (je_ix (je_v v0) je_int) ja_nil))))
  (js_cons (js_st hN v4 (je_cg G_common_divisor hr gl_common_divisor (ja_cons (je_v v2) (ja_cons (je_v v3) ja_nil))))
  (js_one (js_ret (je_tup (ja_cons (je_op (o_fdiv am.py) (je_v v2) (je_v v4)) (ja_cons (je_op (o_fdiv am.py) (je_v v3) (je_v v4)) ja_nil)))))))))
theorem g_opposite_weights (KX : K.In base) (GX : base.Ns mainGlobals mg) (c : He.SaysD fa fn K) (hxb : xb K = true) (hns : BaseOk K mg base) (htr : P.given.tree = none) : FnG P w K mg base "opposite_weights" 2 PG.sp_opposite_weights [] := by
  obtain ⟨fd, F⟩ := c.def_ 21 (d := dd_opposite_weights) rfl
  unfold PG.sp_opposite_weights
  exact mkG (N := (["first", "second", "one", "other", "divisor"] : List Str)) false hns htr F (He.glo_ok KX GX (c.fact 21 (f := .glo "opposite_weights") rfl)) sc_opposite_weights rfl rfl (fun _ _ _ _ _ _ us hl => match us, hl with | [_, _], _ => rfl) (fun X cdv A outer s H E hX hcd am => by subst hX; exact d_opposite_weights am sc_opposite_weights.nd rfl PassesOwn.never rfl rfl (fun _ => rfl) (He.free_ok KX GX (c.fact 65 (f := .free "abs") rfl)) (g_determinant (P := P) (w := w) KX GX c hxb hns htr) (g_product (P := P) (w := w) KX GX c hxb hns htr) (g_common_divisor (P := P) (w := w) KX GX c hxb hns htr))

theorem sc_triple_weights : FnScope (["first", "second", "third", "weights", "divisor", "weight"] : List Str) (["first", "second", "third"] : List Str) (defScope s_triple_weights) := ⟨rfl, rfl, rfl, by decide +kernel, rfl, by decide +kernel, by decide +kernel⟩
theorem d_triple_weights {X : Cx} (am : Amb 2 X) (hN : X.N.Nodup) (hc : X.calm = true) (hxe : PassesOwn (model X.prog X.w) X.A X.env X.xe) (eN : X.N = (["first", "second", "third", "weights", "divisor", "weight"] : List Str)) (eS : X.env.scope = defScope s_triple_weights) (hfn : ∀ x, X.fn x = true) (ig : InGen X) (fr_any : X.mg "any" = none) (fr_tuple : X.mg "tuple" = none) (G_determinant : FnG X.prog X.w X.K X.mg X.base "determinant" 1 PG.sp_determinant []) (G_common_divisor : FnG X.prog X.w X.K X.mg X.base "common_divisor" 1 PG.sp_common_divisor []) : JSs X (defBody s_triple_weights) PG.w_triple_weights := by
  have hr := am.rm
  have n0 : X.N[0]? = some ("first" : Str) := by rw [eN]; rfl
  have v0 : SlotOk X 0 "first" := slot_of eS eN hfn rfl (.inl rfl)
  have n1 : X.N[1]? = some ("second" : Str) := by rw [eN]; rfl
  have v1 : SlotOk X 1 "second" := slot_of eS eN hfn rfl (.inl rfl)
  have n2 : X.N[2]? = some ("third" : Str) := by rw [eN]; rfl
  have v2 : SlotOk X 2 "third" := slot_of eS eN hfn rfl (.inl rfl)
  have n3 : X.N[3]? = some ("weights" : Str) := by rw [eN]; rfl
  have v3 : SlotOk X 3 "weights" := slot_of eS eN hfn rfl (.inl rfl)
  have n4 : X.N[4]? = some ("divisor" : Str) := by rw [eN]; rfl
  have v4 : SlotOk X 4 "divisor" := slot_of eS eN hfn rfl (.inr rfl)
  have n5 : X.N[5]? = some ("weight" : Str) := by rw [eN]; rfl
  have gl_determinant : Gl X "determinant" := gl_of eS rfl
  have gl_any : Gl X "any" := gl_of eS rfl
  have gl_common_divisor : Gl X "common_divisor" := gl_of eS rfl
  have gl_tuple : Gl X "tuple" := gl_of eS rfl
  exact (js_cons (js_st hN v3 (je_lst (ja_cons (je_cg G_determinant hr gl_determinant (ja_cons (je_v v1) (ja_cons (je_v v2) ja_nil))) (ja_cons (je_cg G_determinant hr gl_determinant (ja_cons (je_v v2) (ja_cons (je_v v0) ja_nil))) (ja_cons (je_cg G_determinant hr gl_determinant (ja_cons (je_v v0) (ja_cons (je_v v1) ja_nil))) ja_nil)))))
  (js_cons (js_if (jt_cmp o_lt (je_ix (je_v v3) je_int) je_int (nomark _))
  (js_one (js_setLc false (i := 3) (own' := [("weight", 5)]) (by decide) hc hN n3 (by rw [eS]; rfl) (sw_true (by rw [eS]; rfl) (by rw [eS]; rfl) rfl (by decide +kernel)) (ji_any (je_v v3)) (blk_of eN eS (own := [("weight", 5)]) (by decide +kernel)) (fun s H C cl fp => (jg_of (pg_name (i := 5) hN n5 (by first | exact .inl rfl | exact .inr rfl)))) (fun s H C cl fp => jts_nil) (fun s H C cl fp => (je_neg (je_var 5 n5 (hv := (by first | exact Or.inl rfl | exact Or.inr (Or.inl rfl) | exact vis_free (by decide +kernel))))))))
  js_nil)
  (js_cons (js_if (jt_tru (je_any am ig (gsc_of (by decide +kernel)) gl_any fr_any (own' := [("weight", 5)]) (by decide) hc hN (ji_any (je_v v3)) (blk_of eN eS (own := [("weight", 5)]) (by decide +kernel)) (fun s H C code cl fp A' hA => (jg_of (pg_name (i := 5) hN n5 (by first | exact .inl rfl | exact .inr rfl)))) (fun s H C code cl fp A' hA => (je_cmp o_le (je_var 5 n5 (hv := .inl rfl)) je_int (nomark _)))))
  (js_one (js_ret je_non))
  js_nil)
  (js_cons (js_st hN v4 (je_cg G_common_divisor hr gl_common_divisor (ja_cons (je_cg G_common_divisor hr gl_common_divisor (ja_cons (je_ix (je_v v3) je_int) (ja_cons (je_ix (je_v v3) je_int) ja_nil))) (ja_cons (je_ix (je_v v3) je_int) ja_nil))))
  (js_one (js_ret (je_bty b_tuple gl_tuple fr_tuple RT.boot_tuple (ja_cons (je_lc false (own' := [("weight", 5)]) (by decide) hc hN (ji_any (je_v v3)) (blk_of eN eS (own := [("weight", 5)]) (by decide +kernel)) (fun s H C cl fp => (jg_of (pg_name (i := 5) hN n5 (by first | exact .inl rfl | exact .inr rfl)))) (fun s H C cl fp => jts_nil) (fun s H C cl fp => (je_op (o_fdiv am.py) (je_var 5 n5 (hv := (by first | exact Or.inl rfl | exact Or.inr (Or.inl rfl) | exact vis_free (by decide +kernel)))) (je_var 4 n4 (hv := vis_free (by decide +kernel)))))) ja_nil))))))))
theorem g_triple_weights (KX : K.In base) (GX : base.Ns mainGlobals mg) (c : He.SaysD fa fn K) (hxb : xb K = true) (hns : BaseOk K mg base) (htr : P.given.tree = none) : FnG P w K mg base "triple_weights" 3 PG.sp_triple_weights [] := by
  obtain ⟨fd, F⟩ := c.def_ 22 (d := dd_triple_weights) rfl
  unfold PG.sp_triple_weights
  exact mkG (N := (["first", "second", "third", "weights", "divisor", "weight"] : List Str)) false hns htr F (He.glo_ok KX GX (c.fact 22 (f := .glo "triple_weights") rfl)) sc_triple_weights rfl rfl (fun _ _ _ _ _ _ us hl => match us, hl with | [_, _, _], _ => rfl) (fun X cdv A outer s H E hX hcd am => by subst hX; exact d_triple_weights am sc_triple_weights.nd rfl PassesOwn.never rfl rfl (fun _ => rfl) (ingen_of (p := ("triple_weights", none)) hcd (by decide) (tb_triple_weights (K := K) hxb)) (He.free_ok KX GX (c.fact 67 (f := .free "any") rfl)) (He.free_ok KX GX (c.fact 68 (f := .free "tuple") rfl)) (g_determinant (P := P) (w := w) KX GX c hxb hns htr) (g_common_divisor (P := P) (w := w) KX GX c hxb hns htr))

theorem sc_opposing_sets : FnScope (["half_planes", "many", "found", "i", "j", "k", "one"] : List Str) (["half_planes"] : List Str) (defScope s_opposing_sets) := ⟨rfl, rfl, rfl, by decide +kernel, rfl, by decide +kernel, by decide +kernel⟩
theorem d_opposing_sets {X : Cx} (am : Amb 3 X) (hN : X.N.Nodup) (hc : X.calm = true) (hxe : PassesOwn (model X.prog X.w) X.A X.env X.xe) (eN : X.N = (["half_planes", "many", "found", "i", "j", "k", "one"] : List Str)) (eS : X.env.scope = defScope s_opposing_sets) (hfn : ∀ x, X.fn x = true) (fr_len : X.mg "len" = none) (fr_range : X.mg "range" = none) (G_opposite_weights : FnG X.prog X.w X.K X.mg X.base "opposite_weights" 2 PG.sp_opposite_weights []) (G_triple_weights : FnG X.prog X.w X.K X.mg X.base "triple_weights" 3 PG.sp_triple_weights []) : JSs X (defBody s_opposing_sets) PG.w_opposing_sets := by
  have hr := am.rm
  have n0 : X.N[0]? = some ("half_planes" : Str) := by rw [eN]; rfl
  have v0 : SlotOk X 0 "half_planes" := slot_of eS eN hfn rfl (.inl rfl)
  have n1 : X.N[1]? = some ("many" : Str) := by rw [eN]; rfl
  have v1 : SlotOk X 1 "many" := slot_of eS eN hfn rfl (.inl rfl)
  have n2 : X.N[2]? = some ("found" : Str) := by rw [eN]; rfl
  have v2 : SlotOk X 2 "found" := slot_of eS eN hfn rfl (.inl rfl)
  have n3 : X.N[3]? = some ("i" : Str) := by rw [eN]; rfl
  have v3 : SlotOk X 3 "i" := slot_of eS eN hfn rfl (.inl rfl)
  have n4 : X.N[4]? = some ("j" : Str) := by rw [eN]; rfl
  have v4 : SlotOk X 4 "j" := slot_of eS eN hfn rfl (.inl rfl)
  have n5 : X.N[5]? = some ("k" : Str) := by rw [eN]; rfl
  have v5 : SlotOk X 5 "k" := slot_of eS eN hfn rfl (.inl rfl)
  have n6 : X.N[6]? = some ("one" : Str) := by rw [eN]; rfl
  have gl_len : Gl X "len" := gl_of eS rfl
  have gl_range : Gl X "range" := gl_of eS rfl
  have gl_opposite_weights : Gl X "opposite_weights" := gl_of eS rfl
  have gl_triple_weights : Gl X "triple_weights" := gl_of eS rfl
  exact (js_cons (js_st hN v1 (je_bi b_len gl_len fr_len RT.boot_len (ja_cons (je_v v0) ja_nil)))
  (js_cons (js_st hN v2 (je_lstO ja_nil))
  (js_cons (js_for hxe hc (ji_range1 gl_range fr_range (ja_cons (je_v v1) ja_nil)) (jg_of (pg_v hN v3))
  (js_one (js_for hxe hc (ji_range2 gl_range fr_range (ja_cons (je_op o_addA (je_v v3) je_int) (ja_cons (je_v v1) ja_nil))) (jg_of (pg_v hN v4))
  (js_one (js_do (je_meth PySem.F.slot_list_append PySem.F.type_list_append m_append (je_v v2) (ja_cons (je_tup (ja_cons (je_tup (ja_cons (je_v v3) (ja_cons (je_v v4) ja_nil))) (ja_cons (je_cg G_opposite_weights hr gl_opposite_weights (ja_cons (je_ix (je_v v0) (je_v v3)) (ja_cons (je_ix (je_v v0) (je_v v4)) ja_nil))) ja_nil))) ja_nil)))))))
  (js_cons (js_for hxe hc (ji_range1 gl_range fr_range (ja_cons (je_v v1) ja_nil)) (jg_of (pg_v hN v3))
  (js_one (js_for hxe hc (ji_range2 gl_range fr_range (ja_cons (je_op o_addA (je_v v3) je_int) (ja_cons (je_v v1) ja_nil))) (jg_of (pg_v hN v4))
  (js_one (js_for hxe hc (ji_range2 gl_range fr_range (ja_cons (je_op o_addA (je_v v4) je_int) (ja_cons (je_v v1) ja_nil))) (jg_of (pg_v hN v5))
  (js_one (js_do (je_meth PySem.F.slot_list_append PySem.F.type_list_append m_append (je_v v2) (ja_cons (je_tup (ja_cons (je_tup (ja_cons (je_v v3) (ja_cons (je_v v4) (ja_cons (je_v v5) ja_nil)))) (ja_cons (je_cg G_triple_weights hr gl_triple_weights (ja_cons (je_ix (je_v v0) (je_v v3)) (ja_cons (je_ix (je_v v0) (je_v v4)) (ja_cons (je_ix (je_v v0) (je_v v5)) ja_nil)))) ja_nil))) ja_nil)))))))))
  (js_one (js_ret (je_lc false (own' := [("one", 6)]) (by decide) hc hN (ji_any (je_v v2)) (blk_of eN eS (own := [("one", 6)]) (by decide +kernel)) (fun s H C cl fp => (jg_of (pg_name (i := 6) hN n6 (by first | exact .inl rfl | exact .inr rfl)))) (fun s H C cl fp => (jts_one (jt_notN (je_ix (je_var 6 n6 (hv := (by first | exact Or.inl rfl | exact Or.inr (Or.inl rfl) | exact vis_free (by decide +kernel)))) je_int)))) (fun s H C cl fp => (je_var 6 n6 (hv := (by first | exact Or.inl rfl | exact Or.inr (Or.inl rfl) | exact vis_free (by decide +kernel))))))))))))
theorem g_opposing_sets (KX : K.In base) (GX : base.Ns mainGlobals mg) (c : He.SaysD fa fn K) (hxb : xb K = true) (hns : BaseOk K mg base) (htr : P.given.tree = none) : FnG P w K mg base "opposing_sets" 4 PG.sp_opposing_sets [] := by
  obtain ⟨fd, F⟩ := c.def_ 23 (d := dd_opposing_sets) rfl
  unfold PG.sp_opposing_sets
  exact mkG (N := (["half_planes", "many", "found", "i", "j", "k", "one"] : List Str)) false hns htr F (He.glo_ok KX GX (c.fact 23 (f := .glo "opposing_sets") rfl)) sc_opposing_sets rfl rfl (fun _ _ _ _ _ _ us hl => match us, hl with | [_], _ => rfl) (fun X cdv A outer s H E hX hcd am => by subst hX; exact d_opposing_sets am sc_opposing_sets.nd rfl PassesOwn.never rfl rfl (fun _ => rfl) (He.free_ok KX GX (c.fact 69 (f := .free "len") rfl)) (He.free_ok KX GX (c.fact 70 (f := .free "range") rfl)) (g_opposite_weights (P := P) (w := w) KX GX c hxb hns htr) (g_triple_weights (P := P) (w := w) KX GX c hxb hns htr))

theorem sc_number_of : FnScope (["half_planes", "indexes", "weights", "index", "weight"] : List Str) (["half_planes", "indexes", "weights"] : List Str) (defScope s_number_of) := ⟨rfl, rfl, rfl, by decide +kernel, rfl, by decide +kernel, by decide +kernel⟩
theorem d_number_of {X : Cx} (am : Amb 0 X) (hN : X.N.Nodup) (hc : X.calm = true) (hxe : PassesOwn (model X.prog X.w) X.A X.env X.xe) (eN : X.N = (["half_planes", "indexes", "weights", "index", "weight"] : List Str)) (eS : X.env.scope = defScope s_number_of) (hfn : ∀ x, X.fn x = true) (fr_sum : X.mg "sum" = none) (fr_zip : X.mg "zip" = none) : JSs X (defBody s_number_of) PG.w_number_of := by
  have hr := am.rm
  have n0 : X.N[0]? = some ("half_planes" : Str) := by rw [eN]; rfl
  have v0 : SlotOk X 0 "half_planes" := slot_of eS eN hfn rfl (.inr rfl)
  have n1 : X.N[1]? = some ("indexes" : Str) := by rw [eN]; rfl
  have v1 : SlotOk X 1 "indexes" := slot_of eS eN hfn rfl (.inl rfl)
  have n2 : X.N[2]? = some ("weights" : Str) := by rw [eN]; rfl
  have v2 : SlotOk X 2 "weights" := slot_of eS eN hfn rfl (.inl rfl)
  have n3 : X.N[3]? = some ("index" : Str) := by rw [eN]; rfl
  have n4 : X.N[4]? = some ("weight" : Str) := by rw [eN]; rfl
  have gl_sum : Gl X "sum" := gl_of eS rfl
  have gl_zip : Gl X "zip" := gl_of eS rfl
  exact (js_one (js_ret (je_bi (b_sum hc) gl_sum fr_sum RT.boot_sum (ja_cons (je_lc false (own' := [("index", 3), ("weight", 4)]) (by decide) hc hN (ji_zipT gl_zip fr_zip (ja_cons (je_v v1) (ja_cons (je_v v2) ja_nil))) (blk_of eN eS (own := [("index", 3), ("weight", 4)]) (by decide +kernel)) (fun s H C cl fp => (jg_of (pg_tup hc (pgs_cons (pg_name (i := 3) hN n3 (by first | exact .inl rfl | exact .inr rfl)) (pgs_cons (pg_name (i := 4) hN n4 (by first | exact .inl rfl | exact .inr rfl)) pgs_nil))))) (fun s H C cl fp => jts_nil) (fun s H C cl fp => (je_op o_mul (je_ix (je_ix (je_var 0 n0 (hv := vis_free (by decide +kernel))) (je_var 3 n3 (hv := (by first | exact Or.inl rfl | exact Or.inr (Or.inl rfl) | exact vis_free (by decide +kernel))))) je_int) (je_var 4 n4 (hv := (by first | exact Or.inl rfl | exact Or.inr (Or.inl rfl) | exact vis_free (by decide +kernel))))))) ja_nil))))
theorem g_number_of (KX : K.In base) (GX : base.Ns mainGlobals mg) (c : He.SaysD fa fn K) (hxb : xb K = true) (hns : BaseOk K mg base) (htr : P.given.tree = none) : FnG P w K mg base "number_of" 1 PG.sp_number_of [] := by
  obtain ⟨fd, F⟩ := c.def_ 24 (d := dd_number_of) rfl
  unfold PG.sp_number_of
  exact mkG (N := (["half_planes", "indexes", "weights", "index", "weight"] : List Str)) false hns htr F (He.glo_ok KX GX (c.fact 24 (f := .glo "number_of") rfl)) sc_number_of rfl rfl (fun _ _ _ _ _ _ us hl => match us, hl with | [_, _, _], _ => rfl) (fun X cdv A outer s H E hX hcd am => by subst hX; exact d_number_of am sc_number_of.nd rfl PassesOwn.never rfl rfl (fun _ => rfl) (He.free_ok KX GX (c.fact 71 (f := .free "sum") rfl)) (He.free_ok KX GX (c.fact 72 (f := .free "zip") rfl)))

theorem sc_is_empty : FnScope (["half_planes", "indexes", "weights"] : List Str) (["half_planes"] : List Str) (defScope s_is_empty) := ⟨rfl, rfl, rfl, by decide +kernel, rfl, by decide +kernel, by decide +kernel⟩
theorem d_is_empty {X : Cx} (am : Amb 5 X) (hN : X.N.Nodup) (hc : X.calm = true) (hxe : PassesOwn (model X.prog X.w) X.A X.env X.xe) (eN : X.N = (["half_planes", "indexes", "weights"] : List Str)) (eS : X.env.scope = defScope s_is_empty) (hfn : ∀ x, X.fn x = true) (ig : InGen X) (fr_any : X.mg "any" = none) (G_opposing_sets : FnG X.prog X.w X.K X.mg X.base "opposing_sets" 4 PG.sp_opposing_sets []) (G_number_of : FnG X.prog X.w X.K X.mg X.base "number_of" 1 PG.sp_number_of []) : JSs X (defBody s_is_empty) PG.w_is_empty := by
  have hr := am.rm
  have n0 : X.N[0]? = some ("half_planes" : Str) := by rw [eN]; rfl
  have v0 : SlotOk X 0 "half_planes" := slot_of eS eN hfn rfl (.inr rfl)
  have n1 : X.N[1]? = some ("indexes" : Str) := by rw [eN]; rfl
  have n2 : X.N[2]? = some ("weights" : Str) := by rw [eN]; rfl
  have gl_any : Gl X "any" := gl_of eS rfl
  have gl_opposing_sets : Gl X "opposing_sets" := gl_of eS rfl
  exact (js_one (js_ret (je_any am ig (gsc_of (by decide +kernel)) gl_any fr_any (own' := [("indexes", 1), ("weights", 2)]) (by decide) hc hN (ji_any (je_cg G_opposing_sets hr gl_opposing_sets (ja_cons (je_v v0) ja_nil))) (blk_of eN eS (own := [("indexes", 1), ("weights", 2)]) (by decide +kernel)) (fun s H C code cl fp A' hA => (jg_of (pg_tup hc (pgs_cons (pg_name (i := 1) hN n1 (by first | exact .inl rfl | exact .inr rfl)) (pgs_cons (pg_name (i := 2) hN n2 (by first | exact .inl rfl | exact .inr rfl)) pgs_nil))))) (fun s H C code cl fp A' hA => (je_cmp o_lt (je_cg G_number_of (gr_gx hr hA) (by rfl) (ja_cons (je_var 0 n0 (hv := .inr (.inr rfl))) (ja_cons (je_var 1 n1 (hv := .inl rfl)) (ja_cons (je_var 2 n2 (hv := .inl rfl)) ja_nil)))) je_int (nomark _))))))
theorem g_is_empty (KX : K.In base) (GX : base.Ns mainGlobals mg) (c : He.SaysD fa fn K) (hxb : xb K = true) (hns : BaseOk K mg base) (htr : P.given.tree = none) : FnG P w K mg base "is_empty" 6 PG.sp_is_empty [] := by
  obtain ⟨fd, F⟩ := c.def_ 25 (d := dd_is_empty) rfl
  unfold PG.sp_is_empty
  exact mkG (N := (["half_planes", "indexes", "weights"] : List Str)) false hns htr F (He.glo_ok KX GX (c.fact 25 (f := .glo "is_empty") rfl)) sc_is_empty rfl rfl (fun _ _ _ _ _ _ us hl => match us, hl with | [_], _ => rfl) (fun X cdv A outer s H E hX hcd am => by subst hX; exact d_is_empty am sc_is_empty.nd rfl PassesOwn.never rfl rfl (fun _ => rfl) (ingen_of (p := ("is_empty", none)) hcd (by decide) (tb_is_empty (K := K) hxb)) (He.free_ok KX GX (c.fact 67 (f := .free "any") rfl)) (g_opposing_sets (P := P) (w := w) KX GX c hxb hns htr) (g_number_of (P := P) (w := w) KX GX c hxb hns htr))

theorem sc_single_bound : FnScope (["half_plane", "p", "q", "cross", "along", "ratio"] : List Str) (["half_plane", "p", "q"] : List Str) (defScope s_single_bound) := ⟨rfl, rfl, rfl, by decide +kernel, rfl, by decide +kernel, by decide +kernel⟩
theorem d_single_bound {X : Cx} (am : Amb 4 X) (hN : X.N.Nodup) (hc : X.calm = true) (hxe : PassesOwn (model X.prog X.w) X.A X.env X.xe) (eN : X.N = (["half_plane", "p", "q", "cross", "along", "ratio"] : List Str)) (eS : X.env.scope = defScope s_single_bound) (hfn : ∀ x, X.fn x = true) (G_multiply : FnG X.prog X.w X.K X.mg X.base "multiply" 3 PG.sp_multiply []) (G_subtract : FnG X.prog X.w X.K X.mg X.base "subtract" 4 PG.sp_subtract []) (G_add : FnG X.prog X.w X.K X.mg X.base "add" 3 PG.sp_add []) (G_sign : FnG X.prog X.w X.K X.mg X.base "sign" 1 PG.sp_sign []) (G_product : FnG X.prog X.w X.K X.mg X.base "product" 1 PG.sp_product []) (G_divide : FnG X.prog X.w X.K X.mg X.base "divide" 3 PG.sp_divide []) (G1_fraction : FnG X.prog X.w X.K X.mg X.base "fraction" 2 PG.sp_fraction [.d (.int 1)]) (C_ZERO : CstG X.K X.mg "ZERO" PG.v_ZERO) : JSs X (defBody s_single_bound) PG.w_single_bound := by
  have hr := am.rm
  have n0 : X.N[0]? = some ("half_plane" : Str) := by rw [eN]; rfl
  have v0 : SlotOk X 0 "half_plane" := slot_of eS eN hfn rfl (.inl rfl)
  have n1 : X.N[1]? = some ("p" : Str) := by rw [eN]; rfl
  have v1 : SlotOk X 1 "p" := slot_of eS eN hfn rfl (.inl rfl)
  have n2 : X.N[2]? = some ("q" : Str) := by rw [eN]; rfl
  have v2 : SlotOk X 2 "q" := slot_of eS eN hfn rfl (.inl rfl)
  have n3 : X.N[3]? = some ("cross" : Str) := by rw [eN]; rfl
  have v3 : SlotOk X 3 "cross" := slot_of eS eN hfn rfl (.inl rfl)
  have n4 : X.N[4]? = some ("along" : Str) := by rw [eN]; rfl
  have v4 : SlotOk X 4 "along" := slot_of eS eN hfn rfl (.inl rfl)
  have n5 : X.N[5]? = some ("ratio" : Str) := by rw [eN]; rfl
  have v5 : SlotOk X 5 "ratio" := slot_of eS eN hfn rfl (.inl rfl)
  have gl_fraction : Gl X "fraction" := gl_of eS rfl
  have gl_multiply : Gl X "multiply" := gl_of eS rfl
  have gl_subtract : Gl X "subtract" := gl_of eS rfl
  have gl_add : Gl X "add" := gl_of eS rfl
  have gl_ZERO : Gl X "ZERO" := gl_of eS rfl
  have gl_sign : Gl X "sign" := gl_of eS rfl
  have gl_product : Gl X "product" := gl_of eS rfl
  have gl_divide : Gl X "divide" := gl_of eS rfl
  exact (js_cons (js_st hN v3 (je_cg G_subtract hr gl_subtract (ja_cons (je_cg G_multiply hr gl_multiply (ja_cons (je_cg G1_fraction hr gl_fraction (ja_cons (je_ix (je_v v0) je_int) ja_nil)) (ja_cons (je_v v2) ja_nil))) (ja_cons (je_cg G_multiply hr gl_multiply (ja_cons (je_cg G1_fraction hr gl_fraction (ja_cons (je_ix (je_v v0) je_int) ja_nil)) (ja_cons (je_v v1) ja_nil))) ja_nil))))
  (js_cons (js_st hN v4 (je_cg G_add hr gl_add (ja_cons (je_cg G_multiply hr gl_multiply (ja_cons (je_cg G1_fraction hr gl_fraction (ja_cons (je_ix (je_v v0) je_int) ja_nil)) (ja_cons (je_v v1) ja_nil))) (ja_cons (je_cg G_multiply hr gl_multiply (ja_cons (je_cg G1_fraction hr gl_fraction (ja_cons (je_ix (je_v v0) je_int) ja_nil)) (ja_cons (je_v v2) ja_nil))) ja_nil))))
  (js_cons (js_if (jw_pt (jw_or (jt_cmp (o_ne hr) (je_v v3) (je_glob ⟨gl_ZERO, C_ZERO, by decide⟩) (nomark _)) (jw_or1 (jt_cmp o_le (je_cg G_sign hr gl_sign (ja_cons (je_v v4) ja_nil)) je_int (nomark _)))))
  (js_one (js_ret je_non))
  js_nil)
  (js_cons (js_st hN v5 (je_cg G_divide hr gl_divide (ja_cons (je_v v4) (ja_cons (je_cg G1_fraction hr gl_fraction (ja_cons (je_cg G_product hr gl_product (ja_cons (je_v v0) (ja_cons (je_v v0) ja_nil))) ja_nil)) ja_nil))))
  (js_one (js_ret (je_cg G_multiply hr gl_multiply (ja_cons (je_v v5) (ja_cons (je_cg G1_fraction hr gl_fraction (ja_cons (je_ix (je_v v0) je_int) ja_nil)) ja_nil)))))))))
theorem g_single_bound (KX : K.In base) (GX : base.Ns mainGlobals mg) (c : He.SaysD fa fn K) (hxb : xb K = true) (hns : BaseOk K mg base) (htr : P.given.tree = none) : FnG P w K mg base "single_bound" 5 PG.sp_single_bound [] := by
  obtain ⟨fd, F⟩ := c.def_ 26 (d := dd_single_bound) rfl
  unfold PG.sp_single_bound
  exact mkG (N := (["half_plane", "p", "q", "cross", "along", "ratio"] : List Str)) false hns htr F (He.glo_ok KX GX (c.fact 26 (f := .glo "single_bound") rfl)) sc_single_bound rfl rfl (fun _ _ _ _ _ _ us hl => match us, hl with | [_, _, _], _ => rfl) (fun X cdv A outer s H E hX hcd am => by subst hX; exact d_single_bound am sc_single_bound.nd rfl PassesOwn.never rfl rfl (fun _ => rfl) (g_multiply (P := P) (w := w) KX GX c hxb hns htr) (g_subtract (P := P) (w := w) KX GX c hxb hns htr) (g_add (P := P) (w := w) KX GX c hxb hns htr) (g_sign (P := P) (w := w) KX GX c hxb hns htr) (g_product (P := P) (w := w) KX GX c hxb hns htr) (g_divide (P := P) (w := w) KX GX c hxb hns htr) (g_fraction (P := P) (w := w) KX GX c hxb hns htr).2 (cst_ZERO KX GX c hxb))

theorem sc_pair_weights : FnScope (["first", "second", "p", "q", "whole", "one", "other"] : List Str) (["first", "second", "p", "q"] : List Str) (defScope s_pair_weights) := ⟨rfl, rfl, rfl, by decide +kernel, rfl, by decide +kernel, by decide +kernel⟩
theorem d_pair_weights {X : Cx} (am : Amb 4 X) (hN : X.N.Nodup) (hc : X.calm = true) (hxe : PassesOwn (model X.prog X.w) X.A X.env X.xe) (eN : X.N = (["first", "second", "p", "q", "whole", "one", "other"] : List Str)) (eS : X.env.scope = defScope s_pair_weights) (hfn : ∀ x, X.fn x = true) (G_determinant : FnG X.prog X.w X.K X.mg X.base "determinant" 1 PG.sp_determinant []) (G_multiply : FnG X.prog X.w X.K X.mg X.base "multiply" 3 PG.sp_multiply []) (G_subtract : FnG X.prog X.w X.K X.mg X.base "subtract" 4 PG.sp_subtract []) (G_divide : FnG X.prog X.w X.K X.mg X.base "divide" 3 PG.sp_divide []) (G_sign : FnG X.prog X.w X.K X.mg X.base "sign" 1 PG.sp_sign []) (G1_fraction : FnG X.prog X.w X.K X.mg X.base "fraction" 2 PG.sp_fraction [.d (.int 1)]) : JSs X (defBody s_pair_weights) PG.w_pair_weights := by
  have hr := am.rm
  have n0 : X.N[0]? = some ("first" : Str) := by rw [eN]; rfl
  have v0 : SlotOk X 0 "first" := slot_of eS eN hfn rfl (.inl rfl)
  have n1 : X.N[1]? = some ("second" : Str) := by rw [eN]; rfl
  have v1 : SlotOk X 1 "second" := slot_of eS eN hfn rfl (.inl rfl)
  have n2 : X.N[2]? = some ("p" : Str) := by rw [eN]; rfl
  have v2 : SlotOk X 2 "p" := slot_of eS eN hfn rfl (.inl rfl)
  have n3 : X.N[3]? = some ("q" : Str) := by rw [eN]; rfl
  have v3 : SlotOk X 3 "q" := slot_of eS eN hfn rfl (.inl rfl)
  have n4 : X.N[4]? = some ("whole" : Str) := by rw [eN]; rfl
  have v4 : SlotOk X 4 "whole" := slot_of eS eN hfn rfl (.inl rfl)
  have n5 : X.N[5]? = some ("one" : Str) := by rw [eN]; rfl
  have v5 : SlotOk X 5 "one" := slot_of eS eN hfn rfl (.inl rfl)
  have n6 : X.N[6]? = some ("other" : Str) := by rw [eN]; rfl
  have v6 : SlotOk X 6 "other" := slot_of eS eN hfn rfl (.inl rfl)
  have gl_determinant : Gl X "determinant" := gl_of eS rfl
  have gl_fraction : Gl X "fraction" := gl_of eS rfl
  have gl_multiply : Gl X "multiply" := gl_of eS rfl
  have gl_subtract : Gl X "subtract" := gl_of eS rfl
  have gl_divide : Gl X "divide" := gl_of eS rfl
  have gl_sign : Gl X "sign" := gl_of eS rfl
  exact (js_cons (js_st hN v4 (je_cg G_determinant hr gl_determinant (ja_cons (je_v v0) (ja_cons (je_v v1) ja_nil))))
  (js_cons (js_if (jt_cmp (o_eq hr) (je_v v4) je_int (nomark _))
  (js_one (js_ret je_non))
  js_nil)
  (js_cons (js_st hN v5 (je_cg G_divide hr gl_divide (ja_cons (je_cg G_subtract hr gl_subtract (ja_cons (je_cg G_multiply hr gl_multiply (ja_cons (je_v v2) (ja_cons (je_cg G1_fraction hr gl_fraction (ja_cons (je_ix (je_v v1) je_int) ja_nil)) ja_nil))) (ja_cons (je_cg G_multiply hr gl_multiply (ja_cons (je_v v3) (ja_cons (je_cg G1_fraction hr gl_fraction (ja_cons (je_ix (je_v v1) je_int) ja_nil)) ja_nil))) ja_nil))) (ja_cons (je_cg G1_fraction hr gl_fraction (ja_cons (je_v v4) ja_nil)) ja_nil))))
  (js_cons (js_st hN v6 (je_cg G_divide hr gl_divide (ja_cons (je_cg G_subtract hr gl_subtract (ja_cons (je_cg G_multiply hr gl_multiply (ja_cons (je_v v3) (ja_cons (je_cg G1_fraction hr gl_fraction (ja_cons (je_ix (je_v v0) je_int) ja_nil)) ja_nil))) (ja_cons (je_cg G_multiply hr gl_multiply (ja_cons (je_v v2) (ja_cons (je_cg G1_fraction hr gl_fraction (ja_cons (je_ix (je_v v0) je_int) ja_nil)) ja_nil))) ja_nil))) (ja_cons (je_cg G1_fraction hr gl_fraction (ja_cons (je_v v4) ja_nil)) ja_nil))))
  (js_cons (js_if (jw_pt (jw_or (jt_cmp o_le (je_cg G_sign hr gl_sign (ja_cons (je_v v5) ja_nil)) je_int (nomark _)) (jw_or1 (jt_cmp o_le (je_cg G_sign hr gl_sign (ja_cons (je_v v6) ja_nil)) je_int (nomark _)))))
  (js_one (js_ret je_non))
  js_nil)
  (js_one (js_ret (je_tup (ja_cons (je_v v5) (ja_cons (je_v v6) ja_nil))))))))))
theorem g_pair_weights (KX : K.In base) (GX : base.Ns mainGlobals mg) (c : He.SaysD fa fn K) (hxb : xb K = true) (hns : BaseOk K mg base) (htr : P.given.tree = none) : FnG P w K mg base "pair_weights" 5 PG.sp_pair_weights [] := by
  obtain ⟨fd, F⟩ := c.def_ 27 (d := dd_pair_weights) rfl
  unfold PG.sp_pair_weights
  exact mkG (N := (["first", "second", "p", "q", "whole", "one", "other"] : List Str)) false hns htr F (He.glo_ok KX GX (c.fact 27 (f := .glo "pair_weights") rfl)) sc_pair_weights rfl rfl (fun _ _ _ _ _ _ us hl => match us, hl with | [_, _, _, _], _ => rfl) (fun X cdv A outer s H E hX hcd am => by subst hX; exact d_pair_weights am sc_pair_weights.nd rfl PassesOwn.never rfl rfl (fun _ => rfl) (g_determinant (P := P) (w := w) KX GX c hxb hns htr) (g_multiply (P := P) (w := w) KX GX c hxb hns htr) (g_subtract (P := P) (w := w) KX GX c hxb hns htr) (g_divide (P := P) (w := w) KX GX c hxb hns htr) (g_sign (P := P) (w := w) KX GX c hxb hns htr) (g_fraction (P := P) (w := w) KX GX c hxb hns htr).2)

theorem sc_pair_bound : FnScope (["first", "second", "p", "q", "weights"] : List Str) (["first", "second", "p", "q"] : List Str) (defScope s_pair_bound) := ⟨rfl, rfl, rfl, by decide +kernel, rfl, by decide +kernel, by decide +kernel⟩
theorem d_pair_bound {X : Cx} (am : Amb 5 X) (hN : X.N.Nodup) (hc : X.calm = true) (hxe : PassesOwn (model X.prog X.w) X.A X.env X.xe) (eN : X.N = (["first", "second", "p", "q", "weights"] : List Str)) (eS : X.env.scope = defScope s_pair_bound) (hfn : ∀ x, X.fn x = true) (G_pair_weights : FnG X.prog X.w X.K X.mg X.base "pair_weights" 5 PG.sp_pair_weights []) (G_multiply : FnG X.prog X.w X.K X.mg X.base "multiply" 3 PG.sp_multiply []) (G_add : FnG X.prog X.w X.K X.mg X.base "add" 3 PG.sp_add []) (G1_fraction : FnG X.prog X.w X.K X.mg X.base "fraction" 2 PG.sp_fraction [.d (.int 1)]) : JSs X (defBody s_pair_bound) PG.w_pair_bound := by
  have hr := am.rm
  have n0 : X.N[0]? = some ("first" : Str) := by rw [eN]; rfl
  have v0 : SlotOk X 0 "first" := slot_of eS eN hfn rfl (.inl rfl)
  have n1 : X.N[1]? = some ("second" : Str) := by rw [eN]; rfl
  have v1 : SlotOk X 1 "second" := slot_of eS eN hfn rfl (.inl rfl)
  have n2 : X.N[2]? = some ("p" : Str) := by rw [eN]; rfl
  have v2 : SlotOk X 2 "p" := slot_of eS eN hfn rfl (.inl rfl)
  have n3 : X.N[3]? = some ("q" : Str) := by rw [eN]; rfl
  have v3 : SlotOk X 3 "q" := slot_of eS eN hfn rfl (.inl rfl)
  have n4 : X.N[4]? = some ("weights" : Str) := by rw [eN]; rfl
  have v4 : SlotOk X 4 "weights" := slot_of eS eN hfn rfl (.inl rfl)
  have gl_pair_weights : Gl X "pair_weights" := gl_of eS rfl
  have gl_fraction : Gl X "fraction" := gl_of eS rfl
  have gl_multiply : Gl X "multiply" := gl_of eS rfl
  have gl_add : Gl X "add" := gl_of eS rfl
  exact (js_cons (js_st hN v4 (je_cg G_pair_weights hr gl_pair_weights (ja_cons (je_v v0) (ja_cons (je_v v1) (ja_cons (je_v v2) (ja_cons (je_v v3) ja_nil))))))
  (js_cons (js_if (jt_isN (je_v v4))
  (js_one (js_ret je_non))
  js_nil)
  (js_one (js_ret (je_cg G_add hr gl_add (ja_cons (je_cg G_multiply hr gl_multiply (ja_cons (je_ix (je_v v4) je_int) (ja_cons (je_cg G1_fraction hr gl_fraction (ja_cons (je_ix (je_v v0) je_int) ja_nil)) ja_nil))) (ja_cons (je_cg G_multiply hr gl_multiply (ja_cons (je_ix (je_v v4) je_int) (ja_cons (je_cg G1_fraction hr gl_fraction (ja_cons (je_ix (je_v v1) je_int) ja_nil)) ja_nil))) ja_nil)))))))
theorem g_pair_bound (KX : K.In base) (GX : base.Ns mainGlobals mg) (c : He.SaysD fa fn K) (hxb : xb K = true) (hns : BaseOk K mg base) (htr : P.given.tree = none) : FnG P w K mg base "pair_bound" 6 PG.sp_pair_bound [] := by
  obtain ⟨fd, F⟩ := c.def_ 28 (d := dd_pair_bound) rfl
  unfold PG.sp_pair_bound
  exact mkG (N := (["first", "second", "p", "q", "weights"] : List Str)) false hns htr F (He.glo_ok KX GX (c.fact 28 (f := .glo "pair_bound") rfl)) sc_pair_bound rfl rfl (fun _ _ _ _ _ _ us hl => match us, hl with | [_, _, _, _], _ => rfl) (fun X cdv A outer s H E hX hcd am => by subst hX; exact d_pair_bound am sc_pair_bound.nd rfl PassesOwn.never rfl rfl (fun _ => rfl) (g_pair_weights (P := P) (w := w) KX GX c hxb hns htr) (g_multiply (P := P) (w := w) KX GX c hxb hns htr) (g_add (P := P) (w := w) KX GX c hxb hns htr) (g_fraction (P := P) (w := w) KX GX c hxb hns htr).2)

theorem sc_supremum : FnScope (["half_planes", "p", "q", "one", "found", "place", "other"] : List Str) (["half_planes", "p", "q"] : List Str) (defScope s_supremum) := ⟨rfl, rfl, rfl, by decide +kernel, rfl, by decide +kernel, by decide +kernel⟩
theorem d_supremum {X : Cx} (am : Amb 7 X) (hN : X.N.Nodup) (hc : X.calm = true) (hxe : PassesOwn (model X.prog X.w) X.A X.env X.xe) (eN : X.N = (["half_planes", "p", "q", "one", "found", "place", "other"] : List Str)) (eS : X.env.scope = defScope s_supremum) (hfn : ∀ x, X.fn x = true) (fr_enumerate : X.mg "enumerate" = none) (G_single_bound : FnG X.prog X.w X.K X.mg X.base "single_bound" 5 PG.sp_single_bound []) (G_pair_bound : FnG X.prog X.w X.K X.mg X.base "pair_bound" 6 PG.sp_pair_bound []) (G_least_of : FnG X.prog X.w X.K X.mg X.base "least_of" 7 PG.sp_least_of []) (C_ZERO : CstG X.K X.mg "ZERO" PG.v_ZERO) : JSs X (defBody s_supremum) PG.w_supremum := by
  have hr := am.rm
  have n0 : X.N[0]? = some ("half_planes" : Str) := by rw [eN]; rfl
  have v0 : SlotOk X 0 "half_planes" := slot_of eS eN hfn rfl (.inl rfl)
  have n1 : X.N[1]? = some ("p" : Str) := by rw [eN]; rfl
  have v1 : SlotOk X 1 "p" := slot_of eS eN hfn rfl (.inr rfl)
  have n2 : X.N[2]? = some ("q" : Str) := by rw [eN]; rfl
  have v2 : SlotOk X 2 "q" := slot_of eS eN hfn rfl (.inr rfl)
  have n3 : X.N[3]? = some ("one" : Str) := by rw [eN]; rfl
  have v3 : SlotOk X 3 "one" := slot_of eS eN hfn rfl (.inl rfl)
  have n4 : X.N[4]? = some ("found" : Str) := by rw [eN]; rfl
  have v4 : SlotOk X 4 "found" := slot_of eS eN hfn rfl (.inl rfl)
  have n5 : X.N[5]? = some ("place" : Str) := by rw [eN]; rfl
  have v5 : SlotOk X 5 "place" := slot_of eS eN hfn rfl (.inl rfl)
  have n6 : X.N[6]? = some ("other" : Str) := by rw [eN]; rfl
  have v6 : SlotOk X 6 "other" := slot_of eS eN hfn rfl (.inl rfl)
  have gl_ZERO : Gl X "ZERO" := gl_of eS rfl
  have gl_enumerate : Gl X "enumerate" := gl_of eS rfl
  have gl_pair_bound : Gl X "pair_bound" := gl_of eS rfl
  have gl_least_of : Gl X "least_of" := gl_of eS rfl
  exact (js_cons (js_if (jw_pt (jw_and (jt_cmp (o_eq hr) (je_v v1) (je_glob ⟨gl_ZERO, C_ZERO, by decide⟩) (nomark _)) (jw_and1 (jt_cmp (o_eq hr) (je_v v2) (je_glob ⟨gl_ZERO, C_ZERO, by decide⟩) (nomark _)))))
  (js_one (js_ret (je_glob ⟨gl_ZERO, C_ZERO, by decide⟩)))
  js_nil)
  (js_cons (js_setLc true (i := 4) (own' := [("one", 3)]) (by decide) hc hN n4 (by rw [eS]; rfl) (sw_true (by rw [eS]; rfl) (by rw [eS]; rfl) rfl (by decide +kernel)) (ji_any (je_v v0)) (blk_of eN eS (own := [("one", 3)]) (by decide +kernel)) (fun s H C cl fp => (jg_of (pg_name (i := 3) hN n3 (by first | exact .inl rfl | exact .inr rfl)))) (fun s H C cl fp => jts_nil) (fun s H C cl fp => (je_cg G_single_bound hr (by rfl) (ja_cons (je_var 3 n3 (hv := (by first | exact Or.inl rfl | exact Or.inr (Or.inl rfl) | exact vis_free (by decide +kernel)))) (ja_cons (je_var 1 n1 (hv := vis_free (by decide +kernel))) (ja_cons (je_var 2 n2 (hv := vis_free (by decide +kernel))) ja_nil))))))
  (js_cons (js_for hxe hc (ji_enum gl_enumerate fr_enumerate (ja_cons (je_v v0) ja_nil)) (jg_of (pg_tup hc (pgs_cons (pg_v hN v5) (pgs_cons (pg_v hN v3) pgs_nil))))
  (js_one (js_for hxe hc (ji_any (je_sl false (je_v v0) (jo_some (je_op o_addA (je_v v5) je_int)) jo_none)) (jg_of (pg_v hN v6))
  (js_one (js_do (je_meth PySem.F.slot_list_append PySem.F.type_list_append m_append (je_v v4) (ja_cons (je_cg G_pair_bound hr gl_pair_bound (ja_cons (je_v v3) (ja_cons (je_v v6) (ja_cons (je_v v1) (ja_cons (je_v v2) ja_nil))))) ja_nil)))))))
  (js_one (js_ret (je_cg G_least_of hr gl_least_of (ja_cons (je_f v4) ja_nil)))))))
theorem g_supremum (KX : K.In base) (GX : base.Ns mainGlobals mg) (c : He.SaysD fa fn K) (hxb : xb K = true) (hns : BaseOk K mg base) (htr : P.given.tree = none) : FnG P w K mg base "supremum" 8 PG.sp_supremum [] := by
  obtain ⟨fd, F⟩ := c.def_ 29 (d := dd_supremum) rfl
  unfold PG.sp_supremum
  exact mkG (N := (["half_planes", "p", "q", "one", "found", "place", "other"] : List Str)) false hns htr F (He.glo_ok KX GX (c.fact 29 (f := .glo "supremum") rfl)) sc_supremum rfl rfl (fun _ _ _ _ _ _ us hl => match us, hl with | [_, _, _], _ => rfl) (fun X cdv A outer s H E hX hcd am => by subst hX; exact d_supremum am sc_supremum.nd rfl PassesOwn.never rfl rfl (fun _ => rfl) (He.free_ok KX GX (c.fact 66 (f := .free "enumerate") rfl)) (g_single_bound (P := P) (w := w) KX GX c hxb hns htr) (g_pair_bound (P := P) (w := w) KX GX c hxb hns htr) (g_least_of (P := P) (w := w) KX GX c hxb hns htr) (cst_ZERO KX GX c hxb))

theorem sc_map_half_planes : FnScope (["map_used", "half_planes", "a", "b", "c", "d", "e", "f", "found", "one", "p", "q", "rest"] : List Str) (["map_used", "half_planes"] : List Str) (defScope s_map_half_planes) := ⟨rfl, rfl, rfl, by decide +kernel, rfl, by decide +kernel, by decide +kernel⟩
theorem d_map_half_planes {X : Cx} (am : Amb 5 X) (hN : X.N.Nodup) (hc : X.calm = true) (hxe : PassesOwn (model X.prog X.w) X.A X.env X.xe) (eN : X.N = (["map_used", "half_planes", "a", "b", "c", "d", "e", "f", "found", "one", "p", "q", "rest"] : List Str)) (eS : X.env.scope = defScope s_map_half_planes) (hfn : ∀ x, X.fn x = true) (G_invert_map : FnG X.prog X.w X.K X.mg X.base "invert_map" 5 PG.sp_invert_map []) (G_multiply : FnG X.prog X.w X.K X.mg X.base "multiply" 3 PG.sp_multiply []) (G_add : FnG X.prog X.w X.K X.mg X.base "add" 3 PG.sp_add []) (G_subtract : FnG X.prog X.w X.K X.mg X.base "subtract" 4 PG.sp_subtract []) (G_make_half_plane : FnG X.prog X.w X.K X.mg X.base "make_half_plane" 2 PG.sp_make_half_plane []) (G1_fraction : FnG X.prog X.w X.K X.mg X.base "fraction" 2 PG.sp_fraction [.d (.int 1)]) : JSs X (defBody s_map_half_planes) PG.w_map_half_planes := by
  have hr := am.rm
  have n0 : X.N[0]? = some ("map_used" : Str) := by rw [eN]; rfl
  have v0 : SlotOk X 0 "map_used" := slot_of eS eN hfn rfl (.inl rfl)
  have n1 : X.N[1]? = some ("half_planes" : Str) := by rw [eN]; rfl
  have v1 : SlotOk X 1 "half_planes" := slot_of eS eN hfn rfl (.inl rfl)
  have n2 : X.N[2]? = some ("a" : Str) := by rw [eN]; rfl
  have v2 : SlotOk X 2 "a" := slot_of eS eN hfn rfl (.inl rfl)
  have n3 : X.N[3]? = some ("b" : Str) := by rw [eN]; rfl
  have v3 : SlotOk X 3 "b" := slot_of eS eN hfn rfl (.inl rfl)
  have n4 : X.N[4]? = some ("c" : Str) := by rw [eN]; rfl
  have v4 : SlotOk X 4 "c" := slot_of eS eN hfn rfl (.inl rfl)
  have n5 : X.N[5]? = some ("d" : Str) := by rw [eN]; rfl
  have v5 : SlotOk X 5 "d" := slot_of eS eN hfn rfl (.inl rfl)
  have n6 : X.N[6]? = some ("e" : Str) := by rw [eN]; rfl
  have v6 : SlotOk X 6 "e" := slot_of eS eN hfn rfl (.inl rfl)
  have n7 : X.N[7]? = some ("f" : Str) := by rw [eN]; rfl
  have v7 : SlotOk X 7 "f" := slot_of eS eN hfn rfl (.inl rfl)
  have n8 : X.N[8]? = some ("found" : Str) := by rw [eN]; rfl
  have v8 : SlotOk X 8 "found" := slot_of eS eN hfn rfl (.inl rfl)
  have n9 : X.N[9]? = some ("one" : Str) := by rw [eN]; rfl
  have v9 : SlotOk X 9 "one" := slot_of eS eN hfn rfl (.inl rfl)
  have n10 : X.N[10]? = some ("p" : Str) := by rw [eN]; rfl
  have v10 : SlotOk X 10 "p" := slot_of eS eN hfn rfl (.inl rfl)
  have n11 : X.N[11]? = some ("q" : Str) := by rw [eN]; rfl
  have v11 : SlotOk X 11 "q" := slot_of eS eN hfn rfl (.inl rfl)
  have n12 : X.N[12]? = some ("rest" : Str) := by rw [eN]; rfl
  have v12 : SlotOk X 12 "rest" := slot_of eS eN hfn rfl (.inl rfl)
  have gl_invert_map : Gl X "invert_map" := gl_of eS rfl
  have gl_fraction : Gl X "fraction" := gl_of eS rfl
  have gl_multiply : Gl X "multiply" := gl_of eS rfl
  have gl_add : Gl X "add" := gl_of eS rfl
  have gl_subtract : Gl X "subtract" := gl_of eS rfl
  have gl_make_half_plane : Gl X "make_half_plane" := gl_of eS rfl
  exact (js_cons (js_asg (je_cg G_invert_map hr gl_invert_map (ja_cons (je_v v0) ja_nil)) (jg_of (pg_tup hc (pgs_cons (pg_v hN v2) (pgs_cons (pg_v hN v3) (pgs_cons (pg_v hN v4) (pgs_cons (pg_v hN v5) (pgs_cons (pg_v hN v6) (pgs_cons (pg_v hN v7) pgs_nil)))))))))
  (js_cons (js_st hN v8 (je_lstO ja_nil))
  (js_cons (js_for hxe hc (ji_any (je_v v1)) (jg_of (pg_v hN v9))
  (js_cons (js_st hN v10 (je_cg G1_fraction hr gl_fraction (ja_cons (je_ix (je_v v9) je_int) ja_nil)))
  (js_cons (js_st hN v11 (je_cg G1_fraction hr gl_fraction (ja_cons (je_ix (je_v v9) je_int) ja_nil)))
  (js_cons (js_st hN v12 (je_cg G_subtract hr gl_subtract (ja_cons (je_cg G1_fraction hr gl_fraction (ja_cons (je_ix (je_v v9) je_int) ja_nil)) (ja_cons (je_cg G_add hr gl_add (ja_cons (je_cg G_multiply hr gl_multiply (ja_cons (je_v v10) (ja_cons (je_v v6) ja_nil))) (ja_cons (je_cg G_multiply hr gl_multiply (ja_cons (je_v v11) (ja_cons (je_v v7) ja_nil))) ja_nil))) ja_nil))))
  (js_one (js_do (je_meth PySem.F.slot_list_append PySem.F.type_list_append m_append (je_v v8) (ja_cons (je_cg G_make_half_plane hr gl_make_half_plane (ja_cons (je_cg G_add hr gl_add (ja_cons (je_cg G_multiply hr gl_multiply (ja_cons (je_v v10) (ja_cons (je_v v2) ja_nil))) (ja_cons (je_cg G_multiply hr gl_multiply (ja_cons (je_v v11) (ja_cons (je_v v4) ja_nil))) ja_nil))) (ja_cons (je_cg G_add hr gl_add (ja_cons (je_cg G_multiply hr gl_multiply (ja_cons (je_v v10) (ja_cons (je_v v3) ja_nil))) (ja_cons (je_cg G_multiply hr gl_multiply (ja_cons (je_v v11) (ja_cons (je_v v5) ja_nil))) ja_nil))) (ja_cons (je_v v12) ja_nil)))) ja_nil))))))))
  (js_one (js_ret (je_v v8))))))
theorem g_map_half_planes (KX : K.In base) (GX : base.Ns mainGlobals mg) (c : He.SaysD fa fn K) (hxb : xb K = true) (hns : BaseOk K mg base) (htr : P.given.tree = none) : FnG P w K mg base "map_half_planes" 6 PG.sp_map_half_planes [] := by
  obtain ⟨fd, F⟩ := c.def_ 30 (d := dd_map_half_planes) rfl
  unfold PG.sp_map_half_planes
  exact mkG (N := (["map_used", "half_planes", "a", "b", "c", "d", "e", "f", "found", "one", "p", "q", "rest"] : List Str)) false hns htr F (He.glo_ok KX GX (c.fact 30 (f := .glo "map_half_planes") rfl)) sc_map_half_planes rfl rfl (fun _ _ _ _ _ _ us hl => match us, hl with | [_, _], _ => rfl) (fun X cdv A outer s H E hX hcd am => by subst hX; exact d_map_half_planes am sc_map_half_planes.nd rfl PassesOwn.never rfl rfl (fun _ => rfl) (g_invert_map (P := P) (w := w) KX GX c hxb hns htr) (g_multiply (P := P) (w := w) KX GX c hxb hns htr) (g_add (P := P) (w := w) KX GX c hxb hns htr) (g_subtract (P := P) (w := w) KX GX c hxb hns htr) (g_make_half_plane (P := P) (w := w) KX GX c hxb hns htr) (g_fraction (P := P) (w := w) KX GX c hxb hns htr).2)

theorem sc_is_implied : FnScope (["half_planes", "half_plane", "bound"] : List Str) (["half_planes", "half_plane"] : List Str) (defScope s_is_implied) := ⟨rfl, rfl, rfl, by decide +kernel, rfl, by decide +kernel, by decide +kernel⟩
theorem d_is_implied {X : Cx} (am : Amb 8 X) (hN : X.N.Nodup) (hc : X.calm = true) (hxe : PassesOwn (model X.prog X.w) X.A X.env X.xe) (eN : X.N = (["half_planes", "half_plane", "bound"] : List Str)) (eS : X.env.scope = defScope s_is_implied) (hfn : ∀ x, X.fn x = true) (G_is_empty : FnG X.prog X.w X.K X.mg X.base "is_empty" 6 PG.sp_is_empty []) (G_supremum : FnG X.prog X.w X.K X.mg X.base "supremum" 8 PG.sp_supremum []) (G_compare : FnG X.prog X.w X.K X.mg X.base "compare" 5 PG.sp_compare []) (G1_fraction : FnG X.prog X.w X.K X.mg X.base "fraction" 2 PG.sp_fraction [.d (.int 1)]) : JSs X (defBody s_is_implied) PG.w_is_implied := by
  have hr := am.rm
  have n0 : X.N[0]? = some ("half_planes" : Str) := by rw [eN]; rfl
  have v0 : SlotOk X 0 "half_planes" := slot_of eS eN hfn rfl (.inl rfl)
  have n1 : X.N[1]? = some ("half_plane" : Str) := by rw [eN]; rfl
  have v1 : SlotOk X 1 "half_plane" := slot_of eS eN hfn rfl (.inl rfl)
  have n2 : X.N[2]? = some ("bound" : Str) := by rw [eN]; rfl
  have v2 : SlotOk X 2 "bound" := slot_of eS eN hfn rfl (.inl rfl)
  have gl_is_empty : Gl X "is_empty" := gl_of eS rfl
  have gl_fraction : Gl X "fraction" := gl_of eS rfl
  have gl_supremum : Gl X "supremum" := gl_of eS rfl
  have gl_compare : Gl X "compare" := gl_of eS rfl
  exact (js_cons (js_if (jt_tru (je_cg G_is_empty hr gl_is_empty (ja_cons (je_v v0) ja_nil)))
  (js_one (js_ret je_bl))
  js_nil)
  (js_cons (js_st hN v2 (je_cg G_supremum hr gl_supremum (ja_cons (je_v v0) (ja_cons (je_cg G1_fraction hr gl_fraction (ja_cons (je_ix (je_v v1) je_int) ja_nil)) (ja_cons (je_cg G1_fraction hr gl_fraction (ja_cons (je_ix (je_v v1) je_int) ja_nil)) ja_nil)))))
  (js_one (js_ret (je_and (je_notN (je_v v2)) (je_one (je_cmp o_le (je_cg G_compare hr gl_compare (ja_cons (je_v v2) (ja_cons (je_cg G1_fraction hr gl_fraction (ja_cons (je_ix (je_v v1) je_int) ja_nil)) ja_nil))) je_int (nomark _))))))))
theorem g_is_implied (KX : K.In base) (GX : base.Ns mainGlobals mg) (c : He.SaysD fa fn K) (hxb : xb K = true) (hns : BaseOk K mg base) (htr : P.given.tree = none) : FnG P w K mg base "is_implied" 9 PG.sp_is_implied [] := by
  obtain ⟨fd, F⟩ := c.def_ 31 (d := dd_is_implied) rfl
  unfold PG.sp_is_implied
  exact mkG (N := (["half_planes", "half_plane", "bound"] : List Str)) false hns htr F (He.glo_ok KX GX (c.fact 31 (f := .glo "is_implied") rfl)) sc_is_implied rfl rfl (fun _ _ _ _ _ _ us hl => match us, hl with | [_, _], _ => rfl) (fun X cdv A outer s H E hX hcd am => by subst hX; exact d_is_implied am sc_is_implied.nd rfl PassesOwn.never rfl rfl (fun _ => rfl) (g_is_empty (P := P) (w := w) KX GX c hxb hns htr) (g_supremum (P := P) (w := w) KX GX c hxb hns htr) (g_compare (P := P) (w := w) KX GX c hxb hns htr) (g_fraction (P := P) (w := w) KX GX c hxb hns htr).2)

theorem sc_planes_of : FnScope (["train", "edge", "half_plane"] : List Str) (["train"] : List Str) (defScope s_planes_of) := ⟨rfl, rfl, rfl, by decide +kernel, rfl, by decide +kernel, by decide +kernel⟩
theorem d_planes_of {X : Cx} (am : Amb 6 X) (hN : X.N.Nodup) (hc : X.calm = true) (hxe : PassesOwn (model X.prog X.w) X.A X.env X.xe) (eN : X.N = (["train", "edge", "half_plane"] : List Str)) (eS : X.env.scope = defScope s_planes_of) (hfn : ∀ x, X.fn x = true) (G_half_planes_of : FnG X.prog X.w X.K X.mg X.base "half_planes_of" 6 PG.sp_half_planes_of []) : JSs X (defBody s_planes_of) PG.w_planes_of := by
  have hr := am.rm
  have n0 : X.N[0]? = some ("train" : Str) := by rw [eN]; rfl
  have v0 : SlotOk X 0 "train" := slot_of eS eN hfn rfl (.inl rfl)
  have n1 : X.N[1]? = some ("edge" : Str) := by rw [eN]; rfl
  have n2 : X.N[2]? = some ("half_plane" : Str) := by rw [eN]; rfl
  have gl_half_planes_of : Gl X "half_planes_of" := gl_of eS rfl
  exact (js_one (js_ret (je_lc false (own' := [("edge", 1), ("half_plane", 2)]) (by decide) hc hN (ji_any (je_cg G_half_planes_of hr gl_half_planes_of (ja_cons (je_v v0) ja_nil))) (blk_of eN eS (own := [("edge", 1), ("half_plane", 2)]) (by decide +kernel)) (fun s H C cl fp => (jg_of (pg_tup hc (pgs_cons (pg_name (i := 1) hN n1 (by first | exact .inl rfl | exact .inr rfl)) (pgs_cons (pg_name (i := 2) hN n2 (by first | exact .inl rfl | exact .inr rfl)) pgs_nil))))) (fun s H C cl fp => jts_nil) (fun s H C cl fp => (je_var 2 n2 (hv := (by first | exact Or.inl rfl | exact Or.inr (Or.inl rfl) | exact vis_free (by decide +kernel))))))))
theorem g_planes_of (KX : K.In base) (GX : base.Ns mainGlobals mg) (c : He.SaysD fa fn K) (hxb : xb K = true) (hns : BaseOk K mg base) (htr : P.given.tree = none) : FnG P w K mg base "planes_of" 7 PG.sp_planes_of [] := by
  obtain ⟨fd, F⟩ := c.def_ 32 (d := dd_planes_of) rfl
  unfold PG.sp_planes_of
  exact mkG (N := (["train", "edge", "half_plane"] : List Str)) false hns htr F (He.glo_ok KX GX (c.fact 32 (f := .glo "planes_of") rfl)) sc_planes_of rfl rfl (fun _ _ _ _ _ _ us hl => match us, hl with | [_], _ => rfl) (fun X cdv A outer s H E hX hcd am => by subst hX; exact d_planes_of am sc_planes_of.nd rfl PassesOwn.never rfl rfl (fun _ => rfl) (g_half_planes_of (P := P) (w := w) KX GX c hxb hns htr))

theorem sc_power_of : FnScope (["transfer", "many", "found", "square"] : List Str) (["transfer", "many"] : List Str) (defScope s_power_of) := ⟨rfl, rfl, rfl, by decide +kernel, rfl, by decide +kernel, by decide +kernel⟩
theorem d_power_of {X : Cx} (am : Amb 5 X) (hN : X.N.Nodup) (hc : X.calm = true) (hxe : PassesOwn (model X.prog X.w) X.A X.env X.xe) (eN : X.N = (["transfer", "many", "found", "square"] : List Str)) (eS : X.env.scope = defScope s_power_of) (hfn : ∀ x, X.fn x = true) (G_compose_maps : FnG X.prog X.w X.K X.mg X.base "compose_maps" 5 PG.sp_compose_maps []) (C_IDENTITY : CstG X.K X.mg "IDENTITY" PG.v_IDENTITY) : JSs X (defBody s_power_of) PG.w_power_of := by
  have hr := am.rm
  have n0 : X.N[0]? = some ("transfer" : Str) := by rw [eN]; rfl
  have v0 : SlotOk X 0 "transfer" := slot_of eS eN hfn rfl (.inl rfl)
  have n1 : X.N[1]? = some ("many" : Str) := by rw [eN]; rfl
  have v1 : SlotOk X 1 "many" := slot_of eS eN hfn rfl (.inl rfl)
  have n2 : X.N[2]? = some ("found" : Str) := by rw [eN]; rfl
  have v2 : SlotOk X 2 "found" := slot_of eS eN hfn rfl (.inl rfl)
  have n3 : X.N[3]? = some ("square" : Str) := by rw [eN]; rfl
  have v3 : SlotOk X 3 "square" := slot_of eS eN hfn rfl (.inl rfl)
  have gl_IDENTITY : Gl X "IDENTITY" := gl_of eS rfl
  have gl_compose_maps : Gl X "compose_maps" := gl_of eS rfl
  exact (js_cons (js_st hN v2 (je_glob ⟨gl_IDENTITY, C_IDENTITY, by decide⟩))
  (js_cons (js_st hN v3 (je_v v0))
  (js_cons (js_while hxe (jt_cmp o_gt (je_v v1) je_int (nomark _))
  (js_cons (js_if (jt_cmp (o_eq hr) (je_op o_mod (je_v v1) je_int) je_int (nomark _))
  (js_one (js_st hN v2 (je_cg G_compose_maps hr gl_compose_maps (ja_cons (je_v v2) (ja_cons (je_v v3) ja_nil)))))
  js_nil)
  (js_cons (js_st hN v3 (je_cg G_compose_maps hr gl_compose_maps (ja_cons (je_v v3) (ja_cons (je_v v3) ja_nil))))
  (js_one (js_augF (i := 1) hN v1.hN v1.hl je_int v1.hf)))))
  (js_one (js_ret (je_v v2))))))
theorem g_power_of (KX : K.In base) (GX : base.Ns mainGlobals mg) (c : He.SaysD fa fn K) (hxb : xb K = true) (hns : BaseOk K mg base) (htr : P.given.tree = none) : FnG P w K mg base "power_of" 6 PG.sp_power_of [] := by
  obtain ⟨fd, F⟩ := c.def_ 33 (d := dd_power_of) rfl
  unfold PG.sp_power_of
  exact mkG (N := (["transfer", "many", "found", "square"] : List Str)) false hns htr F (He.glo_ok KX GX (c.fact 33 (f := .glo "power_of") rfl)) sc_power_of rfl rfl (fun _ _ _ _ _ _ us hl => match us, hl with | [_, _], _ => rfl) (fun X cdv A outer s H E hX hcd am => by subst hX; exact d_power_of am sc_power_of.nd rfl PassesOwn.never rfl rfl (fun _ => rfl) (g_compose_maps (P := P) (w := w) KX GX c hxb hns htr) (cst_IDENTITY KX GX c hxb))

theorem sc_pass_planes : FnScope (["train", "many", "half_planes", "back", "found", "turn"] : List Str) (["train", "many"] : List Str) (defScope s_pass_planes) := ⟨rfl, rfl, rfl, by decide +kernel, rfl, by decide +kernel, by decide +kernel⟩
theorem d_pass_planes {X : Cx} (am : Amb 7 X) (hN : X.N.Nodup) (hc : X.calm = true) (hxe : PassesOwn (model X.prog X.w) X.A X.env X.xe) (eN : X.N = (["train", "many", "half_planes", "back", "found", "turn"] : List Str)) (eS : X.env.scope = defScope s_pass_planes) (hfn : ∀ x, X.fn x = true) (fr_range : X.mg "range" = none) (G_planes_of : FnG X.prog X.w X.K X.mg X.base "planes_of" 7 PG.sp_planes_of []) (G_ray_transfer : FnG X.prog X.w X.K X.mg X.base "ray_transfer" 6 PG.sp_ray_transfer []) (G_invert_map : FnG X.prog X.w X.K X.mg X.base "invert_map" 5 PG.sp_invert_map []) (G_power_of : FnG X.prog X.w X.K X.mg X.base "power_of" 6 PG.sp_power_of []) (G_map_half_planes : FnG X.prog X.w X.K X.mg X.base "map_half_planes" 6 PG.sp_map_half_planes []) : JSs X (defBody s_pass_planes) PG.w_pass_planes := by
  have hr := am.rm
  have n0 : X.N[0]? = some ("train" : Str) := by rw [eN]; rfl
  have v0 : SlotOk X 0 "train" := slot_of eS eN hfn rfl (.inl rfl)
  have n1 : X.N[1]? = some ("many" : Str) := by rw [eN]; rfl
  have v1 : SlotOk X 1 "many" := slot_of eS eN hfn rfl (.inl rfl)
  have n2 : X.N[2]? = some ("half_planes" : Str) := by rw [eN]; rfl
  have v2 : SlotOk X 2 "half_planes" := slot_of eS eN hfn rfl (.inl rfl)
  have n3 : X.N[3]? = some ("back" : Str) := by rw [eN]; rfl
  have v3 : SlotOk X 3 "back" := slot_of eS eN hfn rfl (.inl rfl)
  have n4 : X.N[4]? = some ("found" : Str) := by rw [eN]; rfl
  have v4 : SlotOk X 4 "found" := slot_of eS eN hfn rfl (.inl rfl)
  have n5 : X.N[5]? = some ("turn" : Str) := by rw [eN]; rfl
  have v5 : SlotOk X 5 "turn" := slot_of eS eN hfn rfl (.inl rfl)
  have gl_planes_of : Gl X "planes_of" := gl_of eS rfl
  have gl_ray_transfer : Gl X "ray_transfer" := gl_of eS rfl
  have gl_invert_map : Gl X "invert_map" := gl_of eS rfl
  have gl_range : Gl X "range" := gl_of eS rfl
  have gl_power_of : Gl X "power_of" := gl_of eS rfl
  have gl_map_half_planes : Gl X "map_half_planes" := gl_of eS rfl
  exact (js_cons (js_st hN v2 (je_cg G_planes_of hr gl_planes_of (ja_cons (je_v v0) ja_nil)))
  (js_cons (js_st hN v3 (je_cg G_invert_map hr gl_invert_map (ja_cons (je_cg G_ray_transfer hr gl_ray_transfer (ja_cons (je_v v0) ja_nil)) ja_nil)))
  (js_cons (js_st hN v4 (je_lstO ja_nil))
  (js_cons (js_for hxe hc (ji_range1 gl_range fr_range (ja_cons (je_v v1) ja_nil)) (jg_of (pg_v hN v5))
  (js_one (js_augL (i := 4) hN v4.hN v4.hl (je_cg G_map_half_planes hr gl_map_half_planes (ja_cons (je_cg G_power_of hr gl_power_of (ja_cons (je_v v3) (ja_cons (je_v v5) ja_nil))) (ja_cons (je_v v2) ja_nil))) v4.hf)))
  (js_one (js_ret (je_v v4)))))))
theorem g_pass_planes (KX : K.In base) (GX : base.Ns mainGlobals mg) (c : He.SaysD fa fn K) (hxb : xb K = true) (hns : BaseOk K mg base) (htr : P.given.tree = none) : FnG P w K mg base "pass_planes" 8 PG.sp_pass_planes [] := by
  obtain ⟨fd, F⟩ := c.def_ 34 (d := dd_pass_planes) rfl
  unfold PG.sp_pass_planes
  exact mkG (N := (["train", "many", "half_planes", "back", "found", "turn"] : List Str)) false hns htr F (He.glo_ok KX GX (c.fact 34 (f := .glo "pass_planes") rfl)) sc_pass_planes rfl rfl (fun _ _ _ _ _ _ us hl => match us, hl with | [_, _], _ => rfl) (fun X cdv A outer s H E hX hcd am => by subst hX; exact d_pass_planes am sc_pass_planes.nd rfl PassesOwn.never rfl rfl (fun _ => rfl) (He.free_ok KX GX (c.fact 70 (f := .free "range") rfl)) (g_planes_of (P := P) (w := w) KX GX c hxb hns htr) (g_ray_transfer (P := P) (w := w) KX GX c hxb hns htr) (g_invert_map (P := P) (w := w) KX GX c hxb hns htr) (g_power_of (P := P) (w := w) KX GX c hxb hns htr) (g_map_half_planes (P := P) (w := w) KX GX c hxb hns htr))

theorem sc_holds_next : FnScope (["train", "many", "half_planes", "behind", "half_plane"] : List Str) (["train", "many"] : List Str) (defScope s_holds_next) := ⟨rfl, rfl, rfl, by decide +kernel, rfl, by decide +kernel, by decide +kernel⟩
theorem d_holds_next {X : Cx} (am : Amb 9 X) (hN : X.N.Nodup) (hc : X.calm = true) (hxe : PassesOwn (model X.prog X.w) X.A X.env X.xe) (eN : X.N = (["train", "many", "half_planes", "behind", "half_plane"] : List Str)) (eS : X.env.scope = defScope s_holds_next) (hfn : ∀ x, X.fn x = true) (fr_all : X.mg "all" = none) (G_pass_planes : FnG X.prog X.w X.K X.mg X.base "pass_planes" 8 PG.sp_pass_planes []) (G_is_empty : FnG X.prog X.w X.K X.mg X.base "is_empty" 6 PG.sp_is_empty []) (G_planes_of : FnG X.prog X.w X.K X.mg X.base "planes_of" 7 PG.sp_planes_of []) (G_ray_transfer : FnG X.prog X.w X.K X.mg X.base "ray_transfer" 6 PG.sp_ray_transfer []) (G_invert_map : FnG X.prog X.w X.K X.mg X.base "invert_map" 5 PG.sp_invert_map []) (G_power_of : FnG X.prog X.w X.K X.mg X.base "power_of" 6 PG.sp_power_of []) (G_map_half_planes : FnG X.prog X.w X.K X.mg X.base "map_half_planes" 6 PG.sp_map_half_planes []) (G_is_implied : FnG X.prog X.w X.K X.mg X.base "is_implied" 9 PG.sp_is_implied []) : JSs X (defBody s_holds_next) PG.w_holds_next := by
  have hr := am.rm
  have n0 : X.N[0]? = some ("train" : Str) := by rw [eN]; rfl
  have v0 : SlotOk X 0 "train" := slot_of eS eN hfn rfl (.inl rfl)
  have n1 : X.N[1]? = some ("many" : Str) := by rw [eN]; rfl
  have v1 : SlotOk X 1 "many" := slot_of eS eN hfn rfl (.inl rfl)
  have n2 : X.N[2]? = some ("half_planes" : Str) := by rw [eN]; rfl
  have v2 : SlotOk X 2 "half_planes" := slot_of eS eN hfn rfl (.inr rfl)
  have n3 : X.N[3]? = some ("behind" : Str) := by rw [eN]; rfl
  have v3 : SlotOk X 3 "behind" := slot_of eS eN hfn rfl (.inl rfl)
  have n4 : X.N[4]? = some ("half_plane" : Str) := by rw [eN]; rfl
  have gl_pass_planes : Gl X "pass_planes" := gl_of eS rfl
  have gl_is_empty : Gl X "is_empty" := gl_of eS rfl
  have gl_planes_of : Gl X "planes_of" := gl_of eS rfl
  have gl_ray_transfer : Gl X "ray_transfer" := gl_of eS rfl
  have gl_invert_map : Gl X "invert_map" := gl_of eS rfl
  have gl_power_of : Gl X "power_of" := gl_of eS rfl
  have gl_map_half_planes : Gl X "map_half_planes" := gl_of eS rfl
  have gl_all : Gl X "all" := gl_of eS rfl
  exact (js_cons (js_st hN v2 (je_cg G_pass_planes hr gl_pass_planes (ja_cons (je_v v0) (ja_cons (je_v v1) ja_nil))))
  (js_cons (js_if (jt_tru (je_cg G_is_empty hr gl_is_empty (ja_cons (je_v v2) ja_nil)))
  (js_one (js_ret je_bl))
  js_nil)
  (js_cons (js_st hN v3 (je_cg G_map_half_planes hr gl_map_half_planes (ja_cons (je_cg G_power_of hr gl_power_of (ja_cons (je_cg G_invert_map hr gl_invert_map (ja_cons (je_cg G_ray_transfer hr gl_ray_transfer (ja_cons (je_v v0) ja_nil)) ja_nil)) (ja_cons (je_v v1) ja_nil))) (ja_cons (je_cg G_planes_of hr gl_planes_of (ja_cons (je_v v0) ja_nil)) ja_nil))))
  (js_one (js_ret (je_bi (b_all hc) gl_all fr_all RT.boot_all (ja_cons (je_lc false (own' := [("half_plane", 4)]) (by decide) hc hN (ji_any (je_v v3)) (blk_of eN eS (own := [("half_plane", 4)]) (by decide +kernel)) (fun s H C cl fp => (jg_of (pg_name (i := 4) hN n4 (by first | exact .inl rfl | exact .inr rfl)))) (fun s H C cl fp => jts_nil) (fun s H C cl fp => (je_cg G_is_implied hr (by rfl) (ja_cons (je_var 2 n2 (hv := vis_free (by decide +kernel))) (ja_cons (je_var 4 n4 (hv := (by first | exact Or.inl rfl | exact Or.inr (Or.inl rfl) | exact vis_free (by decide +kernel)))) ja_nil))))) ja_nil)))))))
theorem g_holds_next (KX : K.In base) (GX : base.Ns mainGlobals mg) (c : He.SaysD fa fn K) (hxb : xb K = true) (hns : BaseOk K mg base) (htr : P.given.tree = none) : FnG P w K mg base "holds_next" 10 PG.sp_holds_next [] := by
  obtain ⟨fd, F⟩ := c.def_ 35 (d := dd_holds_next) rfl
  unfold PG.sp_holds_next
  exact mkG (N := (["train", "many", "half_planes", "behind", "half_plane"] : List Str)) false hns htr F (He.glo_ok KX GX (c.fact 35 (f := .glo "holds_next") rfl)) sc_holds_next rfl rfl (fun _ _ _ _ _ _ us hl => match us, hl with | [_, _], _ => rfl) (fun X cdv A outer s H E hX hcd am => by subst hX; exact d_holds_next am sc_holds_next.nd rfl PassesOwn.never rfl rfl (fun _ => rfl) (He.free_ok KX GX (c.fact 73 (f := .free "all") rfl)) (g_pass_planes (P := P) (w := w) KX GX c hxb hns htr) (g_is_empty (P := P) (w := w) KX GX c hxb hns htr) (g_planes_of (P := P) (w := w) KX GX c hxb hns htr) (g_ray_transfer (P := P) (w := w) KX GX c hxb hns htr) (g_invert_map (P := P) (w := w) KX GX c hxb hns htr) (g_power_of (P := P) (w := w) KX GX c hxb hns htr) (g_map_half_planes (P := P) (w := w) KX GX c hxb hns htr) (g_is_implied (P := P) (w := w) KX GX c hxb hns htr))

theorem sc_settled : FnScope (["train", "most", "many"] : List Str) (["train", "most"] : List Str) (defScope s_settled) := ⟨rfl, rfl, rfl, by decide +kernel, rfl, by decide +kernel, by decide +kernel⟩
theorem d_settled {X : Cx} (am : Amb 10 X) (hN : X.N.Nodup) (hc : X.calm = true) (hxe : PassesOwn (model X.prog X.w) X.A X.env X.xe) (eN : X.N = (["train", "most", "many"] : List Str)) (eS : X.env.scope = defScope s_settled) (hfn : ∀ x, X.fn x = true) (fr_range : X.mg "range" = none) (G_holds_next : FnG X.prog X.w X.K X.mg X.base "holds_next" 10 PG.sp_holds_next []) : JSs X (defBody s_settled) PG.w_settled := by
  have hr := am.rm
  have n0 : X.N[0]? = some ("train" : Str) := by rw [eN]; rfl
  have v0 : SlotOk X 0 "train" := slot_of eS eN hfn rfl (.inl rfl)
  have n1 : X.N[1]? = some ("most" : Str) := by rw [eN]; rfl
  have v1 : SlotOk X 1 "most" := slot_of eS eN hfn rfl (.inl rfl)
  have n2 : X.N[2]? = some ("many" : Str) := by rw [eN]; rfl
  have v2 : SlotOk X 2 "many" := slot_of eS eN hfn rfl (.inl rfl)
  have gl_range : Gl X "range" := gl_of eS rfl
  have gl_holds_next : Gl X "holds_next" := gl_of eS rfl
  exact (js_cons (js_for hxe hc (ji_range1 gl_range fr_range (ja_cons (je_op o_addA (je_v v1) je_int) ja_nil)) (jg_of (pg_v hN v2))
  (js_one (js_if (jt_tru (je_cg G_holds_next hr gl_holds_next (ja_cons (je_v v0) (ja_cons (je_v v2) ja_nil))))
  (js_one (js_ret (je_v v2)))
  js_nil)))
  (js_one (js_ret je_non)))
theorem g_settled (KX : K.In base) (GX : base.Ns mainGlobals mg) (c : He.SaysD fa fn K) (hxb : xb K = true) (hns : BaseOk K mg base) (htr : P.given.tree = none) : FnG P w K mg base "settled" 11 PG.sp_settled [] := by
  obtain ⟨fd, F⟩ := c.def_ 36 (d := dd_settled) rfl
  unfold PG.sp_settled
  exact mkG (N := (["train", "most", "many"] : List Str)) false hns htr F (He.glo_ok KX GX (c.fact 36 (f := .glo "settled") rfl)) sc_settled rfl rfl (fun _ _ _ _ _ _ us hl => match us, hl with | [_, _], _ => rfl) (fun X cdv A outer s H E hX hcd am => by subst hX; exact d_settled am sc_settled.nd rfl PassesOwn.never rfl rfl (fun _ => rfl) (He.free_ok KX GX (c.fact 70 (f := .free "range") rfl)) (g_holds_next (P := P) (w := w) KX GX c hxb hns htr))

theorem sc_is_kept : FnScope (["train"] : List Str) (["train"] : List Str) (defScope s_is_kept) := ⟨rfl, rfl, rfl, by decide +kernel, rfl, by decide +kernel, by decide +kernel⟩
theorem d_is_kept {X : Cx} (am : Amb 10 X) (hN : X.N.Nodup) (hc : X.calm = true) (hxe : PassesOwn (model X.prog X.w) X.A X.env X.xe) (eN : X.N = (["train"] : List Str)) (eS : X.env.scope = defScope s_is_kept) (hfn : ∀ x, X.fn x = true) (G_holds_next : FnG X.prog X.w X.K X.mg X.base "holds_next" 10 PG.sp_holds_next []) : JSs X (defBody s_is_kept) PG.w_is_kept := by
  have hr := am.rm
  have n0 : X.N[0]? = some ("train" : Str) := by rw [eN]; rfl
  have v0 : SlotOk X 0 "train" := slot_of eS eN hfn rfl (.inl rfl)
  have gl_holds_next : Gl X "holds_next" := gl_of eS rfl
  exact (js_one (js_ret (je_cg G_holds_next hr gl_holds_next (ja_cons (je_v v0) (ja_cons je_int ja_nil)))))
theorem g_is_kept (KX : K.In base) (GX : base.Ns mainGlobals mg) (c : He.SaysD fa fn K) (hxb : xb K = true) (hns : BaseOk K mg base) (htr : P.given.tree = none) : FnG P w K mg base "is_kept" 11 PG.sp_is_kept [] := by
  obtain ⟨fd, F⟩ := c.def_ 37 (d := dd_is_kept) rfl
  unfold PG.sp_is_kept
  exact mkG (N := (["train"] : List Str)) false hns htr F (He.glo_ok KX GX (c.fact 37 (f := .glo "is_kept") rfl)) sc_is_kept rfl rfl (fun _ _ _ _ _ _ us hl => match us, hl with | [_], _ => rfl) (fun X cdv A outer s H E hX hcd am => by subst hX; exact d_is_kept am sc_is_kept.nd rfl PassesOwn.never rfl rfl (fun _ => rfl) (g_holds_next (P := P) (w := w) KX GX c hxb hns htr))

theorem sc__law_cell : FnScope (["_law_script", "_law_k"] : List Str) (["_law_script", "_law_k"] : List Str) (defScope s__law_cell) := ⟨rfl, rfl, rfl, by decide +kernel, rfl, by decide +kernel, by decide +kernel⟩
theorem d__law_cell {X : Cx} (am : Amb 0 X) (hN : X.N.Nodup) (hc : X.calm = true) (hxe : PassesOwn (model X.prog X.w) X.A X.env X.xe) (eN : X.N = (["_law_script", "_law_k"] : List Str)) (eS : X.env.scope = defScope s__law_cell) (hfn : ∀ x, X.fn x = true) (fr_len : X.mg "len" = none) : JSs X (defBody s__law_cell) PG.w__law_cell := by
  have hr := am.rm
  have n0 : X.N[0]? = some ("_law_script" : Str) := by rw [eN]; rfl
  have v0 : SlotOk X 0 "_law_script" := slot_of eS eN hfn rfl (.inl rfl)
  have n1 : X.N[1]? = some ("_law_k" : Str) := by rw [eN]; rfl
  have v1 : SlotOk X 1 "_law_k" := slot_of eS eN hfn rfl (.inl rfl)
  have gl_len : Gl X "len" := gl_of eS rfl
  exact (js_cons (js_if (jt_cmp o_lt (je_v v1) (je_bi b_len gl_len fr_len RT.boot_len (ja_cons (je_v v0) ja_nil)) (nomark _))
  (js_one (js_ret (je_ix (je_v v0) (je_v v1))))
  js_nil)
  (js_one (js_ret je_int)))
theorem g__law_cell (KX : K.In base) (GX : base.Ns mainGlobals mg) (c : He.SaysD fa fn K) (hxb : xb K = true) (hns : BaseOk K mg base) (htr : P.given.tree = none) : FnG P w K mg base "_law_cell" 1 PG.sp__law_cell [] := by
  obtain ⟨fd, F⟩ := c.def_ 38 (d := dd__law_cell) rfl
  unfold PG.sp__law_cell
  exact mkG (N := (["_law_script", "_law_k"] : List Str)) false hns htr F (He.glo_ok KX GX (c.fact 38 (f := .glo "_law_cell") rfl)) sc__law_cell rfl rfl (fun _ _ _ _ _ _ us hl => match us, hl with | [_, _], _ => rfl) (fun X cdv A outer s H E hX hcd am => by subst hX; exact d__law_cell am sc__law_cell.nd rfl PassesOwn.never rfl rfl (fun _ => rfl) (He.free_ok KX GX (c.fact 69 (f := .free "len") rfl)))

theorem sc__law_row : FnScope (["_law_cell_here", "_law_k", "_law_many", "_law_row_here", "_law_turn", "_law_seed"] : List Str) (["_law_cell_here", "_law_k", "_law_many"] : List Str) (defScope s__law_row) := ⟨rfl, rfl, rfl, by decide +kernel, rfl, by decide +kernel, by decide +kernel⟩
theorem d__law_row {X : Cx} (am : Amb 0 X) (hN : X.N.Nodup) (hc : X.calm = true) (hxe : PassesOwn (model X.prog X.w) X.A X.env X.xe) (eN : X.N = (["_law_cell_here", "_law_k", "_law_many", "_law_row_here", "_law_turn", "_law_seed"] : List Str)) (eS : X.env.scope = defScope s__law_row) (hfn : ∀ x, X.fn x = true) (fr_range : X.mg "range" = none) (fr_len : X.mg "len" = none) (fr_int : X.mg "int" = none) : JSs X (defBody s__law_row) PG.w__law_row := by
  have hr := am.rm
  have n0 : X.N[0]? = some ("_law_cell_here" : Str) := by rw [eN]; rfl
  have v0 : SlotOk X 0 "_law_cell_here" := slot_of eS eN hfn rfl (.inl rfl)
  have n1 : X.N[1]? = some ("_law_k" : Str) := by rw [eN]; rfl
  have v1 : SlotOk X 1 "_law_k" := slot_of eS eN hfn rfl (.inl rfl)
  have n2 : X.N[2]? = some ("_law_many" : Str) := by rw [eN]; rfl
  have v2 : SlotOk X 2 "_law_many" := slot_of eS eN hfn rfl (.inl rfl)
  have n3 : X.N[3]? = some ("_law_row_here" : Str) := by rw [eN]; rfl
  have v3 : SlotOk X 3 "_law_row_here" := slot_of eS eN hfn rfl (.inl rfl)
  have n4 : X.N[4]? = some ("_law_turn" : Str) := by rw [eN]; rfl
  have v4 : SlotOk X 4 "_law_turn" := slot_of eS eN hfn rfl (.inl rfl)
  have n5 : X.N[5]? = some ("_law_seed" : Str) := by rw [eN]; rfl
  have v5 : SlotOk X 5 "_law_seed" := slot_of eS eN hfn rfl (.inl rfl)
  have gl_range : Gl X "range" := gl_of eS rfl
  have gl_len : Gl X "len" := gl_of eS rfl
  have gl_int : Gl X "int" := gl_of eS rfl
  exact (js_cons (js_st hN v3 (je_lstO ja_nil))
  (js_cons (js_if (jt_cmp o_lt (je_v v0) je_int (nomark _))
  (js_one (js_st hN v0 (je_op o_sub je_int (je_op o_mul je_int (je_v v0)))))
  js_nil)
  (js_cons (js_if (jt_cmp o_ge (je_v v0) (je_op o_pow je_int je_int) (nomark _))
  (js_cons (js_for hxe hc (ji_range1 gl_range fr_range (ja_cons je_int ja_nil)) (jg_of (pg_v hN v4))
  (js_one (js_if (jw_pt (jw_and (jt_cmp o_gt (je_v v0) je_int (nomark _)) (jw_and1 (jt_cmp o_lt (je_bi b_len gl_len fr_len RT.boot_len (ja_cons (je_v v3) ja_nil)) (je_v v2) (nomark _)))))
  (js_cons (js_do (je_meth PySem.F.slot_list_append PySem.F.type_list_append m_append (je_v v3) (ja_cons (je_op o_mod (je_bty b_int gl_int fr_int RT.boot_int (ja_cons (je_v v0) ja_nil)) je_int) ja_nil)))
  (js_one (js_st hN v0 (je_op (o_fdiv am.py) (je_v v0) je_int))))
  js_nil)))
  (js_one (js_ret (je_v v3))))
  js_nil)
  (js_cons (js_st hN v5 (je_op o_mod (je_bty b_int gl_int fr_int RT.boot_int (ja_cons (je_op o_addA (je_op o_addA (je_op o_mul (je_v v0) je_int) (je_op o_mul (je_v v1) je_int)) je_int) ja_nil)) je_int))
  (js_cons (js_for hxe hc (ji_range1 gl_range fr_range (ja_cons (je_v v2) ja_nil)) (jg_of (pg_v hN v4))
  (js_cons (js_st hN v5 (je_op o_mod (je_bty b_int gl_int fr_int RT.boot_int (ja_cons (je_op o_addA (je_op o_addA (je_op o_mul (je_v v5) je_int) (je_op o_mul je_int (je_v v4))) je_int) ja_nil)) je_int))
  (js_one (js_do (je_meth PySem.F.slot_list_append PySem.F.type_list_append m_append (je_v v3) (ja_cons (je_op o_mod (je_bty b_int gl_int fr_int RT.boot_int (ja_cons (je_op (o_fdiv am.py) (je_v v5) je_int) ja_nil)) je_int) ja_nil))))))
  (js_one (js_ret (je_v v3))))))))
theorem g__law_row (KX : K.In base) (GX : base.Ns mainGlobals mg) (c : He.SaysD fa fn K) (hxb : xb K = true) (hns : BaseOk K mg base) (htr : P.given.tree = none) : FnG P w K mg base "_law_row" 1 PG.sp__law_row [] := by
  obtain ⟨fd, F⟩ := c.def_ 39 (d := dd__law_row) rfl
  unfold PG.sp__law_row
  exact mkG (N := (["_law_cell_here", "_law_k", "_law_many", "_law_row_here", "_law_turn", "_law_seed"] : List Str)) false hns htr F (He.glo_ok KX GX (c.fact 39 (f := .glo "_law_row") rfl)) sc__law_row rfl rfl (fun _ _ _ _ _ _ us hl => match us, hl with | [_, _, _], _ => rfl) (fun X cdv A outer s H E hX hcd am => by subst hX; exact d__law_row am sc__law_row.nd rfl PassesOwn.never rfl rfl (fun _ => rfl) (He.free_ok KX GX (c.fact 70 (f := .free "range") rfl)) (He.free_ok KX GX (c.fact 69 (f := .free "len") rfl)) (He.free_ok KX GX (c.fact 74 (f := .free "int") rfl)))

theorem sc__law_box : FnScope (["_law_script", "_law_first", "_law_last", "_law_row_here", "_law_k"] : List Str) (["_law_script", "_law_first", "_law_last"] : List Str) (defScope s__law_box) := ⟨rfl, rfl, rfl, by decide +kernel, rfl, by decide +kernel, by decide +kernel⟩
theorem d__law_box {X : Cx} (am : Amb 1 X) (hN : X.N.Nodup) (hc : X.calm = true) (hxe : PassesOwn (model X.prog X.w) X.A X.env X.xe) (eN : X.N = (["_law_script", "_law_first", "_law_last", "_law_row_here", "_law_k"] : List Str)) (eS : X.env.scope = defScope s__law_box) (hfn : ∀ x, X.fn x = true) (fr_range : X.mg "range" = none) (G__law_cell : FnG X.prog X.w X.K X.mg X.base "_law_cell" 1 PG.sp__law_cell []) (G__law_row : FnG X.prog X.w X.K X.mg X.base "_law_row" 1 PG.sp__law_row []) : JSs X (defBody s__law_box) PG.w__law_box := by
  have hr := am.rm
  have n0 : X.N[0]? = some ("_law_script" : Str) := by rw [eN]; rfl
  have v0 : SlotOk X 0 "_law_script" := slot_of eS eN hfn rfl (.inl rfl)
  have n1 : X.N[1]? = some ("_law_first" : Str) := by rw [eN]; rfl
  have v1 : SlotOk X 1 "_law_first" := slot_of eS eN hfn rfl (.inl rfl)
  have n2 : X.N[2]? = some ("_law_last" : Str) := by rw [eN]; rfl
  have v2 : SlotOk X 2 "_law_last" := slot_of eS eN hfn rfl (.inl rfl)
  have n3 : X.N[3]? = some ("_law_row_here" : Str) := by rw [eN]; rfl
  have v3 : SlotOk X 3 "_law_row_here" := slot_of eS eN hfn rfl (.inl rfl)
  have n4 : X.N[4]? = some ("_law_k" : Str) := by rw [eN]; rfl
  have v4 : SlotOk X 4 "_law_k" := slot_of eS eN hfn rfl (.inl rfl)
  have gl_range : Gl X "range" := gl_of eS rfl
  have gl__law_cell : Gl X "_law_cell" := gl_of eS rfl
  have gl__law_row : Gl X "_law_row" := gl_of eS rfl
  exact (js_cons (js_st hN v3 (je_lst ja_nil))
  (js_cons (js_for hxe hc (ji_range2 gl_range fr_range (ja_cons (je_v v1) (ja_cons (je_v v2) ja_nil))) (jg_of (pg_v hN v4))
  (js_one (js_st hN v3 (je_op o_addA (je_v v3) (je_cg G__law_row hr gl__law_row (ja_cons (je_cg G__law_cell hr gl__law_cell (ja_cons (je_v v0) (ja_cons (je_v v4) ja_nil))) (ja_cons (je_v v4) (ja_cons je_int ja_nil))))))))
  (js_one (js_ret (je_lstO (ja_cons (je_v v3) (ja_cons je_int ja_nil)))))))
theorem g__law_box (KX : K.In base) (GX : base.Ns mainGlobals mg) (c : He.SaysD fa fn K) (hxb : xb K = true) (hns : BaseOk K mg base) (htr : P.given.tree = none) : FnG P w K mg base "_law_box" 2 PG.sp__law_box [] := by
  obtain ⟨fd, F⟩ := c.def_ 40 (d := dd__law_box) rfl
  unfold PG.sp__law_box
  exact mkG (N := (["_law_script", "_law_first", "_law_last", "_law_row_here", "_law_k"] : List Str)) true hns htr F (He.glo_ok KX GX (c.fact 40 (f := .glo "_law_box") rfl)) sc__law_box rfl rfl (fun _ _ _ _ _ _ us hl => match us, hl with | [_, _, _], _ => rfl) (fun X cdv A outer s H E hX hcd am => by subst hX; exact d__law_box am sc__law_box.nd rfl PassesOwn.never rfl rfl (fun _ => rfl) (He.free_ok KX GX (c.fact 70 (f := .free "range") rfl)) (g__law_cell (P := P) (w := w) KX GX c hxb hns htr) (g__law_row (P := P) (w := w) KX GX c hxb hns htr))

theorem sc__law_draw : FnScope (["_law_box_here", "_law_many", "_law_at"] : List Str) (["_law_box_here", "_law_many"] : List Str) (defScope s__law_draw) := ⟨rfl, rfl, rfl, by decide +kernel, rfl, by decide +kernel, by decide +kernel⟩
theorem d__law_draw {X : Cx} (am : Amb 0 X) (hN : X.N.Nodup) (hc : X.calm = true) (hxe : PassesOwn (model X.prog X.w) X.A X.env X.xe) (eN : X.N = (["_law_box_here", "_law_many", "_law_at"] : List Str)) (eS : X.env.scope = defScope s__law_draw) (hfn : ∀ x, X.fn x = true) (fr_len : X.mg "len" = none) (fr_int : X.mg "int" = none) : JSs X (defBody s__law_draw) PG.w__law_draw_2 := by
  have hr := am.rm
  have n0 : X.N[0]? = some ("_law_box_here" : Str) := by rw [eN]; rfl
  have v0 : SlotOk X 0 "_law_box_here" := slot_of eS eN hfn rfl (.inl rfl)
  have n1 : X.N[1]? = some ("_law_many" : Str) := by rw [eN]; rfl
  have v1 : SlotOk X 1 "_law_many" := slot_of eS eN hfn rfl (.inl rfl)
  have n2 : X.N[2]? = some ("_law_at" : Str) := by rw [eN]; rfl
  have v2 : SlotOk X 2 "_law_at" := slot_of eS eN hfn rfl (.inl rfl)
  have gl_len : Gl X "len" := gl_of eS rfl
  have gl_int : Gl X "int" := gl_of eS rfl
  exact (js_cons (js_st hN v2 (je_ix (je_v v0) je_int))
  (js_cons (js_setIx (je_op o_addA (je_v v2) je_int) (pg_sub (je_v v0) je_int set_list))
  (js_cons (js_if (jt_cmp o_lt (je_v v2) (je_bi b_len gl_len fr_len RT.boot_len (ja_cons (je_ix (je_v v0) je_int) ja_nil)) (nomark _))
  (js_one (js_ret (je_op o_mod (je_bty b_int gl_int fr_int RT.boot_int (ja_cons (je_ix (je_ix (je_v v0) je_int) (je_v v2)) ja_nil)) (je_v v1))))
  js_nil)
  (js_one (js_ret (je_op o_mod (je_bty b_int gl_int fr_int RT.boot_int (ja_cons (je_op o_addA (je_op o_mul (je_v v2) je_int) je_int) ja_nil)) (je_v v1)))))))
theorem g__law_draw (KX : K.In base) (GX : base.Ns mainGlobals mg) (c : He.SaysD fa fn K) (hxb : xb K = true) (hns : BaseOk K mg base) (htr : P.given.tree = none) : FnG P w K mg base "_law_draw" 1 PG.sp__law_draw_2 [] := by
  obtain ⟨fd, F⟩ := c.def_ 41 (d := dd__law_draw) rfl
  unfold PG.sp__law_draw_2
  exact mkG (N := (["_law_box_here", "_law_many", "_law_at"] : List Str)) false hns htr F (He.glo_ok KX GX (c.fact 41 (f := .glo "_law_draw") rfl)) sc__law_draw rfl rfl (fun _ _ _ _ _ _ us hl => match us, hl with | [_, _], _ => rfl) (fun X cdv A outer s H E hX hcd am => by subst hX; exact d__law_draw am sc__law_draw.nd rfl PassesOwn.never rfl rfl (fun _ => rfl) (He.free_ok KX GX (c.fact 69 (f := .free "len") rfl)) (He.free_ok KX GX (c.fact 74 (f := .free "int") rfl)))

theorem sc__law_same : FnScope (["_law_one", "_law_other"] : List Str) (["_law_one", "_law_other"] : List Str) (defScope s__law_same) := ⟨rfl, rfl, rfl, by decide +kernel, rfl, by decide +kernel, by decide +kernel⟩
theorem d__law_same {X : Cx} (am : Amb 0 X) (hN : X.N.Nodup) (hc : X.calm = true) (hxe : PassesOwn (model X.prog X.w) X.A X.env X.xe) (eN : X.N = (["_law_one", "_law_other"] : List Str)) (eS : X.env.scope = defScope s__law_same) (hfn : ∀ x, X.fn x = true) (fr_repr : X.mg "repr" = none) : JSs X (defBody s__law_same) PG.w__law_same := by
  have hr := am.rm
  have n0 : X.N[0]? = some ("_law_one" : Str) := by rw [eN]; rfl
  have v0 : SlotOk X 0 "_law_one" := slot_of eS eN hfn rfl (.inl rfl)
  have n1 : X.N[1]? = some ("_law_other" : Str) := by rw [eN]; rfl
  have v1 : SlotOk X 1 "_law_other" := slot_of eS eN hfn rfl (.inl rfl)
  have gl_repr : Gl X "repr" := gl_of eS rfl
  exact (js_one (js_ret (je_cmp o_eqT (je_bi (b_repr hr) gl_repr fr_repr RT.boot_repr (ja_cons (je_v v0) ja_nil)) (je_bi (b_repr hr) gl_repr fr_repr RT.boot_repr (ja_cons (je_v v1) ja_nil)) (nomark _))))
theorem g__law_same (KX : K.In base) (GX : base.Ns mainGlobals mg) (c : He.SaysD fa fn K) (hxb : xb K = true) (hns : BaseOk K mg base) (htr : P.given.tree = none) : FnG P w K mg base "_law_same" 1 PG.sp__law_same [] := by
  obtain ⟨fd, F⟩ := c.def_ 42 (d := dd__law_same) rfl
  unfold PG.sp__law_same
  exact mkG (N := (["_law_one", "_law_other"] : List Str)) false hns htr F (He.glo_ok KX GX (c.fact 42 (f := .glo "_law_same") rfl)) sc__law_same rfl rfl (fun _ _ _ _ _ _ us hl => match us, hl with | [_, _], _ => rfl) (fun X cdv A outer s H E hX hcd am => by subst hX; exact d__law_same am sc__law_same.nd rfl PassesOwn.never rfl rfl (fun _ => rfl) (He.free_ok KX GX (c.fact 75 (f := .free "repr") rfl)))

theorem sc__law_frac : FnScope (["_law_top", "_law_bottom", "_law_one", "_law_other"] : List Str) (["_law_top", "_law_bottom"] : List Str) (defScope s__law_frac) := ⟨rfl, rfl, rfl, by decide +kernel, rfl, by decide +kernel, by decide +kernel⟩
theorem d__law_frac {X : Cx} (am : Amb 0 X) (hN : X.N.Nodup) (hc : X.calm = true) (hxe : PassesOwn (model X.prog X.w) X.A X.env X.xe) (eN : X.N = (["_law_top", "_law_bottom", "_law_one", "_law_other"] : List Str)) (eS : X.env.scope = defScope s__law_frac) (hfn : ∀ x, X.fn x = true) (fr_abs : X.mg "abs" = none) (fr_int : X.mg "int" = none) : JSs X (defBody s__law_frac) PG.w__law_frac := by
  have hr := am.rm
  have n0 : X.N[0]? = some ("_law_top" : Str) := by rw [eN]; rfl
  have v0 : SlotOk X 0 "_law_top" := slot_of eS eN hfn rfl (.inl rfl)
  have n1 : X.N[1]? = some ("_law_bottom" : Str) := by rw [eN]; rfl
  have v1 : SlotOk X 1 "_law_bottom" := slot_of eS eN hfn rfl (.inl rfl)
  have n2 : X.N[2]? = some ("_law_one" : Str) := by rw [eN]; rfl
  have v2 : SlotOk X 2 "_law_one" := slot_of eS eN hfn rfl (.inl rfl)
  have n3 : X.N[3]? = some ("_law_other" : Str) := by rw [eN]; rfl
  have v3 : SlotOk X 3 "_law_other" := slot_of eS eN hfn rfl (.inl rfl)
  have gl_abs : Gl X "abs" := gl_of eS rfl
  have gl_int : Gl X "int" := gl_of eS rfl
  exact (js_cons (js_st hN v2 (je_bi b_abs gl_abs fr_abs RT.boot_abs (ja_cons (je_v v0) ja_nil)))
  (js_cons (js_st hN v3 (je_bi b_abs gl_abs fr_abs RT.boot_abs (ja_cons (je_v v1) ja_nil)))
  (js_cons (js_while hxe (jt_cmp o_gt (je_v v3) je_int (nomark _))
  (js_one (js_par (i := 2) (j := 3) hc hN n2 n3 (by decide) (by rw [eS]; rfl) (by rw [eS]; rfl) (ja_cons (je_v v3) (ja_cons (je_op o_mod (je_bty b_int gl_int fr_int RT.boot_int (ja_cons (je_v v2) ja_nil)) (je_bty b_int gl_int fr_int RT.boot_int (ja_cons (je_v v3) ja_nil))) ja_nil)) (swap_ok (by rw [eS]; rfl) (by rw [eS]; rfl) (by rw [eS]; rfl) (by decide) rfl rfl rfl (by decide +kernel) (by decide +kernel)))))
  (js_cons (js_if (jt_cmp o_lt (je_v v1) je_int (nomark _))
  (js_one (js_st hN v2 (je_neg (je_v v2))))
  js_nil)
  (js_one (js_ret (je_tup (ja_cons (je_op (o_fdiv am.py) (je_v v0) (je_v v2)) (ja_cons (je_op (o_fdiv am.py) (je_v v1) (je_v v2)) ja_nil)))))))))
theorem g__law_frac (KX : K.In base) (GX : base.Ns mainGlobals mg) (c : He.SaysD fa fn K) (hxb : xb K = true) (hns : BaseOk K mg base) (htr : P.given.tree = none) : FnG P w K mg base "_law_frac" 1 PG.sp__law_frac [] := by
  obtain ⟨fd, F⟩ := c.def_ 43 (d := dd__law_frac) rfl
  unfold PG.sp__law_frac
  exact mkG (N := (["_law_top", "_law_bottom", "_law_one", "_law_other"] : List Str)) false hns htr F (He.glo_ok KX GX (c.fact 43 (f := .glo "_law_frac") rfl)) sc__law_frac rfl rfl (fun _ _ _ _ _ _ us hl => match us, hl with | [_, _], _ => rfl) (fun X cdv A outer s H E hX hcd am => by subst hX; exact d__law_frac am sc__law_frac.nd rfl PassesOwn.never rfl rfl (fun _ => rfl) (He.free_ok KX GX (c.fact 65 (f := .free "abs") rfl)) (He.free_ok KX GX (c.fact 74 (f := .free "int") rfl)))

theorem sc__law_add : FnScope (["_law_one", "_law_other"] : List Str) (["_law_one", "_law_other"] : List Str) (defScope s__law_add) := ⟨rfl, rfl, rfl, by decide +kernel, rfl, by decide +kernel, by decide +kernel⟩
theorem d__law_add {X : Cx} (am : Amb 1 X) (hN : X.N.Nodup) (hc : X.calm = true) (hxe : PassesOwn (model X.prog X.w) X.A X.env X.xe) (eN : X.N = (["_law_one", "_law_other"] : List Str)) (eS : X.env.scope = defScope s__law_add) (hfn : ∀ x, X.fn x = true) (G__law_frac : FnG X.prog X.w X.K X.mg X.base "_law_frac" 1 PG.sp__law_frac []) : JSs X (defBody s__law_add) PG.w__law_add_2 := by
  have hr := am.rm
  have n0 : X.N[0]? = some ("_law_one" : Str) := by rw [eN]; rfl
  have v0 : SlotOk X 0 "_law_one" := slot_of eS eN hfn rfl (.inl rfl)
  have n1 : X.N[1]? = some ("_law_other" : Str) := by rw [eN]; rfl
  have v1 : SlotOk X 1 "_law_other" := slot_of eS eN hfn rfl (.inl rfl)
  have gl__law_frac : Gl X "_law_frac" := gl_of eS rfl
  exact (js_one (js_ret (je_cg G__law_frac hr gl__law_frac (ja_cons (je_op o_addA (je_op o_mul (je_ix (je_v v0) je_int) (je_ix (je_v v1) je_int)) (je_op o_mul (je_ix (je_v v1) je_int) (je_ix (je_v v0) je_int))) (ja_cons (je_op o_mul (je_ix (je_v v0) je_int) (je_ix (je_v v1) je_int)) ja_nil)))))
theorem g__law_add (KX : K.In base) (GX : base.Ns mainGlobals mg) (c : He.SaysD fa fn K) (hxb : xb K = true) (hns : BaseOk K mg base) (htr : P.given.tree = none) : FnG P w K mg base "_law_add" 2 PG.sp__law_add_2 [] := by
  obtain ⟨fd, F⟩ := c.def_ 44 (d := dd__law_add) rfl
  unfold PG.sp__law_add_2
  exact mkG (N := (["_law_one", "_law_other"] : List Str)) false hns htr F (He.glo_ok KX GX (c.fact 44 (f := .glo "_law_add") rfl)) sc__law_add rfl rfl (fun _ _ _ _ _ _ us hl => match us, hl with | [_, _], _ => rfl) (fun X cdv A outer s H E hX hcd am => by subst hX; exact d__law_add am sc__law_add.nd rfl PassesOwn.never rfl rfl (fun _ => rfl) (g__law_frac (P := P) (w := w) KX GX c hxb hns htr))

theorem sc__law_neg : FnScope (["_law_one"] : List Str) (["_law_one"] : List Str) (defScope s__law_neg) := ⟨rfl, rfl, rfl, by decide +kernel, rfl, by decide +kernel, by decide +kernel⟩
theorem d__law_neg {X : Cx} (am : Amb 0 X) (hN : X.N.Nodup) (hc : X.calm = true) (hxe : PassesOwn (model X.prog X.w) X.A X.env X.xe) (eN : X.N = (["_law_one"] : List Str)) (eS : X.env.scope = defScope s__law_neg) (hfn : ∀ x, X.fn x = true) : JSs X (defBody s__law_neg) PG.w__law_neg := by
  have hr := am.rm
  have n0 : X.N[0]? = some ("_law_one" : Str) := by rw [eN]; rfl
  have v0 : SlotOk X 0 "_law_one" := slot_of eS eN hfn rfl (.inl rfl)
  exact (js_one (js_ret (je_tup (ja_cons (je_neg (je_ix (je_v v0) je_int)) (ja_cons (je_ix (je_v v0) je_int) ja_nil)))))
theorem g__law_neg (KX : K.In base) (GX : base.Ns mainGlobals mg) (c : He.SaysD fa fn K) (hxb : xb K = true) (hns : BaseOk K mg base) (htr : P.given.tree = none) : FnG P w K mg base "_law_neg" 1 PG.sp__law_neg [] := by
  obtain ⟨fd, F⟩ := c.def_ 45 (d := dd__law_neg) rfl
  unfold PG.sp__law_neg
  exact mkG (N := (["_law_one"] : List Str)) false hns htr F (He.glo_ok KX GX (c.fact 45 (f := .glo "_law_neg") rfl)) sc__law_neg rfl rfl (fun _ _ _ _ _ _ us hl => match us, hl with | [_], _ => rfl) (fun X cdv A outer s H E hX hcd am => by subst hX; exact d__law_neg am sc__law_neg.nd rfl PassesOwn.never rfl rfl (fun _ => rfl))

theorem sc__law_sub : FnScope (["_law_one", "_law_other"] : List Str) (["_law_one", "_law_other"] : List Str) (defScope s__law_sub) := ⟨rfl, rfl, rfl, by decide +kernel, rfl, by decide +kernel, by decide +kernel⟩
theorem d__law_sub {X : Cx} (am : Amb 2 X) (hN : X.N.Nodup) (hc : X.calm = true) (hxe : PassesOwn (model X.prog X.w) X.A X.env X.xe) (eN : X.N = (["_law_one", "_law_other"] : List Str)) (eS : X.env.scope = defScope s__law_sub) (hfn : ∀ x, X.fn x = true) (G__law_neg : FnG X.prog X.w X.K X.mg X.base "_law_neg" 1 PG.sp__law_neg []) (G__law_add : FnG X.prog X.w X.K X.mg X.base "_law_add" 2 PG.sp__law_add_2 []) : JSs X (defBody s__law_sub) PG.w__law_sub_2 := by
  have hr := am.rm
  have n0 : X.N[0]? = some ("_law_one" : Str) := by rw [eN]; rfl
  have v0 : SlotOk X 0 "_law_one" := slot_of eS eN hfn rfl (.inl rfl)
  have n1 : X.N[1]? = some ("_law_other" : Str) := by rw [eN]; rfl
  have v1 : SlotOk X 1 "_law_other" := slot_of eS eN hfn rfl (.inl rfl)
  have gl__law_neg : Gl X "_law_neg" := gl_of eS rfl
  have gl__law_add : Gl X "_law_add" := gl_of eS rfl
  exact (js_one (js_ret (je_cg G__law_add hr gl__law_add (ja_cons (je_v v0) (ja_cons (je_cg G__law_neg hr gl__law_neg (ja_cons (je_v v1) ja_nil)) ja_nil)))))
theorem g__law_sub (KX : K.In base) (GX : base.Ns mainGlobals mg) (c : He.SaysD fa fn K) (hxb : xb K = true) (hns : BaseOk K mg base) (htr : P.given.tree = none) : FnG P w K mg base "_law_sub" 3 PG.sp__law_sub_2 [] := by
  obtain ⟨fd, F⟩ := c.def_ 46 (d := dd__law_sub) rfl
  unfold PG.sp__law_sub_2
  exact mkG (N := (["_law_one", "_law_other"] : List Str)) false hns htr F (He.glo_ok KX GX (c.fact 46 (f := .glo "_law_sub") rfl)) sc__law_sub rfl rfl (fun _ _ _ _ _ _ us hl => match us, hl with | [_, _], _ => rfl) (fun X cdv A outer s H E hX hcd am => by subst hX; exact d__law_sub am sc__law_sub.nd rfl PassesOwn.never rfl rfl (fun _ => rfl) (g__law_neg (P := P) (w := w) KX GX c hxb hns htr) (g__law_add (P := P) (w := w) KX GX c hxb hns htr))

theorem sc__law_mul : FnScope (["_law_one", "_law_other"] : List Str) (["_law_one", "_law_other"] : List Str) (defScope s__law_mul) := ⟨rfl, rfl, rfl, by decide +kernel, rfl, by decide +kernel, by decide +kernel⟩
theorem d__law_mul {X : Cx} (am : Amb 1 X) (hN : X.N.Nodup) (hc : X.calm = true) (hxe : PassesOwn (model X.prog X.w) X.A X.env X.xe) (eN : X.N = (["_law_one", "_law_other"] : List Str)) (eS : X.env.scope = defScope s__law_mul) (hfn : ∀ x, X.fn x = true) (G__law_frac : FnG X.prog X.w X.K X.mg X.base "_law_frac" 1 PG.sp__law_frac []) : JSs X (defBody s__law_mul) PG.w__law_mul_2 := by
  have hr := am.rm
  have n0 : X.N[0]? = some ("_law_one" : Str) := by rw [eN]; rfl
  have v0 : SlotOk X 0 "_law_one" := slot_of eS eN hfn rfl (.inl rfl)
  have n1 : X.N[1]? = some ("_law_other" : Str) := by rw [eN]; rfl
  have v1 : SlotOk X 1 "_law_other" := slot_of eS eN hfn rfl (.inl rfl)
  have gl__law_frac : Gl X "_law_frac" := gl_of eS rfl
  exact (js_one (js_ret (je_cg G__law_frac hr gl__law_frac (ja_cons (je_op o_mul (je_ix (je_v v0) je_int) (je_ix (je_v v1) je_int)) (ja_cons (je_op o_mul (je_ix (je_v v0) je_int) (je_ix (je_v v1) je_int)) ja_nil)))))
theorem g__law_mul (KX : K.In base) (GX : base.Ns mainGlobals mg) (c : He.SaysD fa fn K) (hxb : xb K = true) (hns : BaseOk K mg base) (htr : P.given.tree = none) : FnG P w K mg base "_law_mul" 2 PG.sp__law_mul_2 [] := by
  obtain ⟨fd, F⟩ := c.def_ 47 (d := dd__law_mul) rfl
  unfold PG.sp__law_mul_2
  exact mkG (N := (["_law_one", "_law_other"] : List Str)) false hns htr F (He.glo_ok KX GX (c.fact 47 (f := .glo "_law_mul") rfl)) sc__law_mul rfl rfl (fun _ _ _ _ _ _ us hl => match us, hl with | [_, _], _ => rfl) (fun X cdv A outer s H E hX hcd am => by subst hX; exact d__law_mul am sc__law_mul.nd rfl PassesOwn.never rfl rfl (fun _ => rfl) (g__law_frac (P := P) (w := w) KX GX c hxb hns htr))

theorem sc__law_div : FnScope (["_law_one", "_law_other"] : List Str) (["_law_one", "_law_other"] : List Str) (defScope s__law_div) := ⟨rfl, rfl, rfl, by decide +kernel, rfl, by decide +kernel, by decide +kernel⟩
theorem d__law_div {X : Cx} (am : Amb 1 X) (hN : X.N.Nodup) (hc : X.calm = true) (hxe : PassesOwn (model X.prog X.w) X.A X.env X.xe) (eN : X.N = (["_law_one", "_law_other"] : List Str)) (eS : X.env.scope = defScope s__law_div) (hfn : ∀ x, X.fn x = true) (G__law_frac : FnG X.prog X.w X.K X.mg X.base "_law_frac" 1 PG.sp__law_frac []) : JSs X (defBody s__law_div) PG.w__law_div := by
  have hr := am.rm
  have n0 : X.N[0]? = some ("_law_one" : Str) := by rw [eN]; rfl
  have v0 : SlotOk X 0 "_law_one" := slot_of eS eN hfn rfl (.inl rfl)
  have n1 : X.N[1]? = some ("_law_other" : Str) := by rw [eN]; rfl
  have v1 : SlotOk X 1 "_law_other" := slot_of eS eN hfn rfl (.inl rfl)
  have gl__law_frac : Gl X "_law_frac" := gl_of eS rfl
  exact (js_one (js_ret (je_cg G__law_frac hr gl__law_frac (ja_cons (je_op o_mul (je_ix (je_v v0) je_int) (je_ix (je_v v1) je_int)) (ja_cons (je_op o_mul (je_ix (je_v v0) je_int) (je_ix (je_v v1) je_int)) ja_nil)))))
theorem g__law_div (KX : K.In base) (GX : base.Ns mainGlobals mg) (c : He.SaysD fa fn K) (hxb : xb K = true) (hns : BaseOk K mg base) (htr : P.given.tree = none) : FnG P w K mg base "_law_div" 2 PG.sp__law_div [] := by
  obtain ⟨fd, F⟩ := c.def_ 48 (d := dd__law_div) rfl
  unfold PG.sp__law_div
  exact mkG (N := (["_law_one", "_law_other"] : List Str)) false hns htr F (He.glo_ok KX GX (c.fact 48 (f := .glo "_law_div") rfl)) sc__law_div rfl rfl (fun _ _ _ _ _ _ us hl => match us, hl with | [_, _], _ => rfl) (fun X cdv A outer s H E hX hcd am => by subst hX; exact d__law_div am sc__law_div.nd rfl PassesOwn.never rfl rfl (fun _ => rfl) (g__law_frac (P := P) (w := w) KX GX c hxb hns htr))

theorem sc__law_less : FnScope (["_law_one", "_law_other"] : List Str) (["_law_one", "_law_other"] : List Str) (defScope s__law_less) := ⟨rfl, rfl, rfl, by decide +kernel, rfl, by decide +kernel, by decide +kernel⟩
theorem d__law_less {X : Cx} (am : Amb 0 X) (hN : X.N.Nodup) (hc : X.calm = true) (hxe : PassesOwn (model X.prog X.w) X.A X.env X.xe) (eN : X.N = (["_law_one", "_law_other"] : List Str)) (eS : X.env.scope = defScope s__law_less) (hfn : ∀ x, X.fn x = true) : JSs X (defBody s__law_less) PG.w__law_less := by
  have hr := am.rm
  have n0 : X.N[0]? = some ("_law_one" : Str) := by rw [eN]; rfl
  have v0 : SlotOk X 0 "_law_one" := slot_of eS eN hfn rfl (.inl rfl)
  have n1 : X.N[1]? = some ("_law_other" : Str) := by rw [eN]; rfl
  have v1 : SlotOk X 1 "_law_other" := slot_of eS eN hfn rfl (.inl rfl)
  exact (js_one (js_ret (je_cmp o_lt (je_op o_mul (je_ix (je_v v0) je_int) (je_ix (je_v v1) je_int)) (je_op o_mul (je_ix (je_v v1) je_int) (je_ix (je_v v0) je_int)) (nomark _))))
theorem g__law_less (KX : K.In base) (GX : base.Ns mainGlobals mg) (c : He.SaysD fa fn K) (hxb : xb K = true) (hns : BaseOk K mg base) (htr : P.given.tree = none) : FnG P w K mg base "_law_less" 1 PG.sp__law_less [] := by
  obtain ⟨fd, F⟩ := c.def_ 49 (d := dd__law_less) rfl
  unfold PG.sp__law_less
  exact mkG (N := (["_law_one", "_law_other"] : List Str)) false hns htr F (He.glo_ok KX GX (c.fact 49 (f := .glo "_law_less") rfl)) sc__law_less rfl rfl (fun _ _ _ _ _ _ us hl => match us, hl with | [_, _], _ => rfl) (fun X cdv A outer s H E hX hcd am => by subst hX; exact d__law_less am sc__law_less.nd rfl PassesOwn.never rfl rfl (fun _ => rfl))

theorem sc__law_least : FnScope (["_law_values", "_law_best", "_law_value"] : List Str) (["_law_values"] : List Str) (defScope s__law_least) := ⟨rfl, rfl, rfl, by decide +kernel, rfl, by decide +kernel, by decide +kernel⟩
theorem d__law_least {X : Cx} (am : Amb 1 X) (hN : X.N.Nodup) (hc : X.calm = true) (hxe : PassesOwn (model X.prog X.w) X.A X.env X.xe) (eN : X.N = (["_law_values", "_law_best", "_law_value"] : List Str)) (eS : X.env.scope = defScope s__law_least) (hfn : ∀ x, X.fn x = true) (G__law_less : FnG X.prog X.w X.K X.mg X.base "_law_less" 1 PG.sp__law_less []) : JSs X (defBody s__law_least) PG.w__law_least_3 := by
  have hr := am.rm
  have n0 : X.N[0]? = some ("_law_values" : Str) := by rw [eN]; rfl
  have v0 : SlotOk X 0 "_law_values" := slot_of eS eN hfn rfl (.inl rfl)
  have n1 : X.N[1]? = some ("_law_best" : Str) := by rw [eN]; rfl
  have v1 : SlotOk X 1 "_law_best" := slot_of eS eN hfn rfl (.inl rfl)
  have n2 : X.N[2]? = some ("_law_value" : Str) := by rw [eN]; rfl
  have v2 : SlotOk X 2 "_law_value" := slot_of eS eN hfn rfl (.inl rfl)
  have gl__law_less : Gl X "_law_less" := gl_of eS rfl
  exact (js_cons (js_st hN v1 je_non)
  (js_cons (js_for hxe hc (ji_any (je_v v0)) (jg_of (pg_v hN v2))
  (js_one (js_if (jw_pt (jw_or (jt_isN (je_v v1)) (jw_or1 (jt_tru (je_cg G__law_less hr gl__law_less (ja_cons (je_v v2) (ja_cons (je_v v1) ja_nil)))))))
  (js_one (js_st hN v1 (je_v v2)))
  js_nil)))
  (js_one (js_ret (je_v v1)))))
theorem g__law_least (KX : K.In base) (GX : base.Ns mainGlobals mg) (c : He.SaysD fa fn K) (hxb : xb K = true) (hns : BaseOk K mg base) (htr : P.given.tree = none) : FnG P w K mg base "_law_least" 2 PG.sp__law_least_3 [] := by
  obtain ⟨fd, F⟩ := c.def_ 50 (d := dd__law_least) rfl
  unfold PG.sp__law_least_3
  exact mkG (N := (["_law_values", "_law_best", "_law_value"] : List Str)) false hns htr F (He.glo_ok KX GX (c.fact 50 (f := .glo "_law_least") rfl)) sc__law_least rfl rfl (fun _ _ _ _ _ _ us hl => match us, hl with | [_], _ => rfl) (fun X cdv A outer s H E hX hcd am => by subst hX; exact d__law_least am sc__law_least.nd rfl PassesOwn.never rfl rfl (fun _ => rfl) (g__law_less (P := P) (w := w) KX GX c hxb hns htr))

theorem sc__law_greatest : FnScope (["_law_values", "_law_best", "_law_value"] : List Str) (["_law_values"] : List Str) (defScope s__law_greatest) := ⟨rfl, rfl, rfl, by decide +kernel, rfl, by decide +kernel, by decide +kernel⟩
theorem d__law_greatest {X : Cx} (am : Amb 1 X) (hN : X.N.Nodup) (hc : X.calm = true) (hxe : PassesOwn (model X.prog X.w) X.A X.env X.xe) (eN : X.N = (["_law_values", "_law_best", "_law_value"] : List Str)) (eS : X.env.scope = defScope s__law_greatest) (hfn : ∀ x, X.fn x = true) (G__law_less : FnG X.prog X.w X.K X.mg X.base "_law_less" 1 PG.sp__law_less []) : JSs X (defBody s__law_greatest) PG.w__law_greatest := by
  have hr := am.rm
  have n0 : X.N[0]? = some ("_law_values" : Str) := by rw [eN]; rfl
  have v0 : SlotOk X 0 "_law_values" := slot_of eS eN hfn rfl (.inl rfl)
  have n1 : X.N[1]? = some ("_law_best" : Str) := by rw [eN]; rfl
  have v1 : SlotOk X 1 "_law_best" := slot_of eS eN hfn rfl (.inl rfl)
  have n2 : X.N[2]? = some ("_law_value" : Str) := by rw [eN]; rfl
  have v2 : SlotOk X 2 "_law_value" := slot_of eS eN hfn rfl (.inl rfl)
  have gl__law_less : Gl X "_law_less" := gl_of eS rfl
  exact (js_cons (js_st hN v1 je_non)
  (js_cons (js_for hxe hc (ji_any (je_v v0)) (jg_of (pg_v hN v2))
  (js_one (js_if (jw_pt (jw_or (jt_isN (je_v v1)) (jw_or1 (jt_tru (je_cg G__law_less hr gl__law_less (ja_cons (je_v v1) (ja_cons (je_v v2) ja_nil)))))))
  (js_one (js_st hN v1 (je_v v2)))
  js_nil)))
  (js_one (js_ret (je_v v1)))))
theorem g__law_greatest (KX : K.In base) (GX : base.Ns mainGlobals mg) (c : He.SaysD fa fn K) (hxb : xb K = true) (hns : BaseOk K mg base) (htr : P.given.tree = none) : FnG P w K mg base "_law_greatest" 2 PG.sp__law_greatest [] := by
  obtain ⟨fd, F⟩ := c.def_ 51 (d := dd__law_greatest) rfl
  unfold PG.sp__law_greatest
  exact mkG (N := (["_law_values", "_law_best", "_law_value"] : List Str)) false hns htr F (He.glo_ok KX GX (c.fact 51 (f := .glo "_law_greatest") rfl)) sc__law_greatest rfl rfl (fun _ _ _ _ _ _ us hl => match us, hl with | [_], _ => rfl) (fun X cdv A outer s H E hX hcd am => by subst hX; exact d__law_greatest am sc__law_greatest.nd rfl PassesOwn.never rfl rfl (fun _ => rfl) (g__law_less (P := P) (w := w) KX GX c hxb hns htr))

theorem sc__law_fraction : FnScope (["_law_box_here"] : List Str) (["_law_box_here"] : List Str) (defScope s__law_fraction) := ⟨rfl, rfl, rfl, by decide +kernel, rfl, by decide +kernel, by decide +kernel⟩
theorem d__law_fraction {X : Cx} (am : Amb 1 X) (hN : X.N.Nodup) (hc : X.calm = true) (hxe : PassesOwn (model X.prog X.w) X.A X.env X.xe) (eN : X.N = (["_law_box_here"] : List Str)) (eS : X.env.scope = defScope s__law_fraction) (hfn : ∀ x, X.fn x = true) (G__law_draw : FnG X.prog X.w X.K X.mg X.base "_law_draw" 1 PG.sp__law_draw_2 []) (G__law_frac : FnG X.prog X.w X.K X.mg X.base "_law_frac" 1 PG.sp__law_frac []) : JSs X (defBody s__law_fraction) PG.w__law_fraction := by
  have hr := am.rm
  have n0 : X.N[0]? = some ("_law_box_here" : Str) := by rw [eN]; rfl
  have v0 : SlotOk X 0 "_law_box_here" := slot_of eS eN hfn rfl (.inl rfl)
  have gl__law_draw : Gl X "_law_draw" := gl_of eS rfl
  have gl__law_frac : Gl X "_law_frac" := gl_of eS rfl
  exact (js_one (js_ret (je_cg G__law_frac hr gl__law_frac (ja_cons (je_op o_sub (je_cg G__law_draw hr gl__law_draw (ja_cons (je_v v0) (ja_cons je_int ja_nil))) je_int) (ja_cons (je_ix (je_lst (ja_cons je_int (ja_cons je_int (ja_cons je_int (ja_cons je_int ja_nil))))) (je_cg G__law_draw hr gl__law_draw (ja_cons (je_v v0) (ja_cons je_int ja_nil)))) ja_nil)))))
theorem g__law_fraction (KX : K.In base) (GX : base.Ns mainGlobals mg) (c : He.SaysD fa fn K) (hxb : xb K = true) (hns : BaseOk K mg base) (htr : P.given.tree = none) : FnG P w K mg base "_law_fraction" 2 PG.sp__law_fraction [] := by
  obtain ⟨fd, F⟩ := c.def_ 52 (d := dd__law_fraction) rfl
  unfold PG.sp__law_fraction
  exact mkG (N := (["_law_box_here"] : List Str)) false hns htr F (He.glo_ok KX GX (c.fact 52 (f := .glo "_law_fraction") rfl)) sc__law_fraction rfl rfl (fun _ _ _ _ _ _ us hl => match us, hl with | [_], _ => rfl) (fun X cdv A outer s H E hX hcd am => by subst hX; exact d__law_fraction am sc__law_fraction.nd rfl PassesOwn.never rfl rfl (fun _ => rfl) (g__law_draw (P := P) (w := w) KX GX c hxb hns htr) (g__law_frac (P := P) (w := w) KX GX c hxb hns htr))

theorem sc__law_stop : FnScope (["_law_box_here", "_law_lower", "_law_upper", "_law_kind"] : List Str) (["_law_box_here"] : List Str) (defScope s__law_stop) := ⟨rfl, rfl, rfl, by decide +kernel, rfl, by decide +kernel, by decide +kernel⟩
theorem d__law_stop {X : Cx} (am : Amb 2 X) (hN : X.N.Nodup) (hc : X.calm = true) (hxe : PassesOwn (model X.prog X.w) X.A X.env X.xe) (eN : X.N = (["_law_box_here", "_law_lower", "_law_upper", "_law_kind"] : List Str)) (eS : X.env.scope = defScope s__law_stop) (hfn : ∀ x, X.fn x = true) (G__law_fraction : FnG X.prog X.w X.K X.mg X.base "_law_fraction" 2 PG.sp__law_fraction []) (G__law_draw : FnG X.prog X.w X.K X.mg X.base "_law_draw" 1 PG.sp__law_draw_2 []) (G__law_frac : FnG X.prog X.w X.K X.mg X.base "_law_frac" 1 PG.sp__law_frac []) (G__law_add : FnG X.prog X.w X.K X.mg X.base "_law_add" 2 PG.sp__law_add_2 []) : JSs X (defBody s__law_stop) PG.w__law_stop_2 := by
  have hr := am.rm
  have n0 : X.N[0]? = some ("_law_box_here" : Str) := by rw [eN]; rfl
  have v0 : SlotOk X 0 "_law_box_here" := slot_of eS eN hfn rfl (.inl rfl)
  have n1 : X.N[1]? = some ("_law_lower" : Str) := by rw [eN]; rfl
  have v1 : SlotOk X 1 "_law_lower" := slot_of eS eN hfn rfl (.inl rfl)
  have n2 : X.N[2]? = some ("_law_upper" : Str) := by rw [eN]; rfl
  have v2 : SlotOk X 2 "_law_upper" := slot_of eS eN hfn rfl (.inl rfl)
  have n3 : X.N[3]? = some ("_law_kind" : Str) := by rw [eN]; rfl
  have v3 : SlotOk X 3 "_law_kind" := slot_of eS eN hfn rfl (.inl rfl)
  have gl__law_fraction : Gl X "_law_fraction" := gl_of eS rfl
  have gl__law_draw : Gl X "_law_draw" := gl_of eS rfl
  have gl__law_frac : Gl X "_law_frac" := gl_of eS rfl
  have gl__law_add : Gl X "_law_add" := gl_of eS rfl
  exact (js_cons (js_st hN v1 (je_cg G__law_fraction hr gl__law_fraction (ja_cons (je_v v0) ja_nil)))
  (js_cons (js_st hN v2 (je_cg G__law_add hr gl__law_add (ja_cons (je_v v1) (ja_cons (je_cg G__law_frac hr gl__law_frac (ja_cons (je_cg G__law_draw hr gl__law_draw (ja_cons (je_v v0) (ja_cons je_int ja_nil))) (ja_cons je_int ja_nil))) ja_nil))))
  (js_cons (js_st hN v3 (je_cg G__law_draw hr gl__law_draw (ja_cons (je_v v0) (ja_cons je_int ja_nil))))
  (js_cons (js_if (jt_cmp (o_eq hr) (je_v v3) je_int (nomark _))
  (js_one (js_ret (je_tup (ja_cons je_str (ja_cons je_non (ja_cons (je_v v2) ja_nil))))))
  js_nil)
  (js_cons (js_if (jt_cmp (o_eq hr) (je_v v3) je_int (nomark _))
  (js_one (js_ret (je_tup (ja_cons je_str (ja_cons (je_v v1) (ja_cons je_non ja_nil))))))
  js_nil)
  (js_one (js_ret (je_tup (ja_cons je_str (ja_cons (je_v v1) (ja_cons (je_v v2) ja_nil)))))))))))
theorem g__law_stop (KX : K.In base) (GX : base.Ns mainGlobals mg) (c : He.SaysD fa fn K) (hxb : xb K = true) (hns : BaseOk K mg base) (htr : P.given.tree = none) : FnG P w K mg base "_law_stop" 3 PG.sp__law_stop_2 [] := by
  obtain ⟨fd, F⟩ := c.def_ 53 (d := dd__law_stop) rfl
  unfold PG.sp__law_stop_2
  exact mkG (N := (["_law_box_here", "_law_lower", "_law_upper", "_law_kind"] : List Str)) false hns htr F (He.glo_ok KX GX (c.fact 53 (f := .glo "_law_stop") rfl)) sc__law_stop rfl rfl (fun _ _ _ _ _ _ us hl => match us, hl with | [_], _ => rfl) (fun X cdv A outer s H E hX hcd am => by subst hX; exact d__law_stop am sc__law_stop.nd rfl PassesOwn.never rfl rfl (fun _ => rfl) (g__law_fraction (P := P) (w := w) KX GX c hxb hns htr) (g__law_draw (P := P) (w := w) KX GX c hxb hns htr) (g__law_frac (P := P) (w := w) KX GX c hxb hns htr) (g__law_add (P := P) (w := w) KX GX c hxb hns htr))

theorem sc__law_go : FnScope (["_law_element", "_law_ray", "_law_height", "_law_slope"] : List Str) (["_law_element", "_law_ray"] : List Str) (defScope s__law_go) := ⟨rfl, rfl, rfl, by decide +kernel, rfl, by decide +kernel, by decide +kernel⟩
theorem d__law_go {X : Cx} (am : Amb 3 X) (hN : X.N.Nodup) (hc : X.calm = true) (hxe : PassesOwn (model X.prog X.w) X.A X.env X.xe) (eN : X.N = (["_law_element", "_law_ray", "_law_height", "_law_slope"] : List Str)) (eS : X.env.scope = defScope s__law_go) (hfn : ∀ x, X.fn x = true) (G__law_mul : FnG X.prog X.w X.K X.mg X.base "_law_mul" 2 PG.sp__law_mul_2 []) (G__law_add : FnG X.prog X.w X.K X.mg X.base "_law_add" 2 PG.sp__law_add_2 []) (G__law_sub : FnG X.prog X.w X.K X.mg X.base "_law_sub" 3 PG.sp__law_sub_2 []) (G__law_div : FnG X.prog X.w X.K X.mg X.base "_law_div" 2 PG.sp__law_div []) : JSs X (defBody s__law_go) PG.w__law_go_2 := by
  have hr := am.rm
  have n0 : X.N[0]? = some ("_law_element" : Str) := by rw [eN]; rfl
  have v0 : SlotOk X 0 "_law_element" := slot_of eS eN hfn rfl (.inl rfl)
  have n1 : X.N[1]? = some ("_law_ray" : Str) := by rw [eN]; rfl
  have v1 : SlotOk X 1 "_law_ray" := slot_of eS eN hfn rfl (.inl rfl)
  have n2 : X.N[2]? = some ("_law_height" : Str) := by rw [eN]; rfl
  have v2 : SlotOk X 2 "_law_height" := slot_of eS eN hfn rfl (.inl rfl)
  have n3 : X.N[3]? = some ("_law_slope" : Str) := by rw [eN]; rfl
  have v3 : SlotOk X 3 "_law_slope" := slot_of eS eN hfn rfl (.inl rfl)
  have gl__law_mul : Gl X "_law_mul" := gl_of eS rfl
  have gl__law_add : Gl X "_law_add" := gl_of eS rfl
  have gl__law_sub : Gl X "_law_sub" := gl_of eS rfl
  have gl__law_div : Gl X "_law_div" := gl_of eS rfl
  exact (js_cons (js_asg (je_v v1) (jg_of (pg_tup hc (pgs_cons (pg_v hN v2) (pgs_cons (pg_v hN v3) pgs_nil)))))
  (js_cons (js_if (jt_cmp (o_eq hr) (je_ix (je_v v0) je_int) je_str (nomark _))
  (js_one (js_ret (je_tup (ja_cons (je_cg G__law_add hr gl__law_add (ja_cons (je_v v2) (ja_cons (je_cg G__law_mul hr gl__law_mul (ja_cons (je_ix (je_v v0) je_int) (ja_cons (je_v v3) ja_nil))) ja_nil))) (ja_cons (je_v v3) ja_nil)))))
  js_nil)
  (js_cons (js_if (jt_cmp (o_eq hr) (je_ix (je_v v0) je_int) je_str (nomark _))
  (js_one (js_ret (je_tup (ja_cons (je_v v2) (ja_cons (je_cg G__law_sub hr gl__law_sub (ja_cons (je_v v3) (ja_cons (je_cg G__law_mul hr gl__law_mul (ja_cons (je_ix (je_v v0) je_int) (ja_cons (je_cg G__law_sub hr gl__law_sub (ja_cons (je_v v2) (ja_cons (je_ix (je_v v0) je_int) ja_nil))) ja_nil))) ja_nil))) ja_nil)))))
  js_nil)
  (js_cons (js_if (jt_cmp (o_eq hr) (je_ix (je_v v0) je_int) je_str (nomark _))
  (js_one (js_ret (je_tup (ja_cons (je_v v2) (ja_cons (je_cg G__law_add hr gl__law_add (ja_cons (je_v v3) (ja_cons (je_ix (je_v v0) je_int) ja_nil))) ja_nil)))))
  js_nil)
  (js_cons (js_if (jt_cmp (o_eq hr) (je_ix (je_v v0) je_int) je_str (nomark _))
  (js_one (js_ret (je_tup (ja_cons (je_cg G__law_mul hr gl__law_mul (ja_cons (je_ix (je_v v0) je_int) (ja_cons (je_v v2) ja_nil))) (ja_cons (je_cg G__law_div hr gl__law_div (ja_cons (je_v v3) (ja_cons (je_ix (je_v v0) je_int) ja_nil))) ja_nil)))))
  js_nil)
  (js_one (js_ret (je_v v1))))))))
theorem g__law_go (KX : K.In base) (GX : base.Ns mainGlobals mg) (c : He.SaysD fa fn K) (hxb : xb K = true) (hns : BaseOk K mg base) (htr : P.given.tree = none) : FnG P w K mg base "_law_go" 4 PG.sp__law_go_2 [] := by
  obtain ⟨fd, F⟩ := c.def_ 54 (d := dd__law_go) rfl
  unfold PG.sp__law_go_2
  exact mkG (N := (["_law_element", "_law_ray", "_law_height", "_law_slope"] : List Str)) false hns htr F (He.glo_ok KX GX (c.fact 54 (f := .glo "_law_go") rfl)) sc__law_go rfl rfl (fun _ _ _ _ _ _ us hl => match us, hl with | [_, _], _ => rfl) (fun X cdv A outer s H E hX hcd am => by subst hX; exact d__law_go am sc__law_go.nd rfl PassesOwn.never rfl rfl (fun _ => rfl) (g__law_mul (P := P) (w := w) KX GX c hxb hns htr) (g__law_add (P := P) (w := w) KX GX c hxb hns htr) (g__law_sub (P := P) (w := w) KX GX c hxb hns htr) (g__law_div (P := P) (w := w) KX GX c hxb hns htr))

theorem sc__law_out : FnScope (["_law_train", "_law_ray", "_law_element"] : List Str) (["_law_train", "_law_ray"] : List Str) (defScope s__law_out) := ⟨rfl, rfl, rfl, by decide +kernel, rfl, by decide +kernel, by decide +kernel⟩
theorem d__law_out {X : Cx} (am : Amb 4 X) (hN : X.N.Nodup) (hc : X.calm = true) (hxe : PassesOwn (model X.prog X.w) X.A X.env X.xe) (eN : X.N = (["_law_train", "_law_ray", "_law_element"] : List Str)) (eS : X.env.scope = defScope s__law_out) (hfn : ∀ x, X.fn x = true) (G__law_go : FnG X.prog X.w X.K X.mg X.base "_law_go" 4 PG.sp__law_go_2 []) : JSs X (defBody s__law_out) PG.w__law_out := by
  have hr := am.rm
  have n0 : X.N[0]? = some ("_law_train" : Str) := by rw [eN]; rfl
  have v0 : SlotOk X 0 "_law_train" := slot_of eS eN hfn rfl (.inl rfl)
  have n1 : X.N[1]? = some ("_law_ray" : Str) := by rw [eN]; rfl
  have v1 : SlotOk X 1 "_law_ray" := slot_of eS eN hfn rfl (.inl rfl)
  have n2 : X.N[2]? = some ("_law_element" : Str) := by rw [eN]; rfl
  have v2 : SlotOk X 2 "_law_element" := slot_of eS eN hfn rfl (.inl rfl)
  have gl__law_go : Gl X "_law_go" := gl_of eS rfl
  exact (js_cons (js_for hxe hc (ji_any (je_v v0)) (jg_of (pg_v hN v2))
  (js_one (js_st hN v1 (je_cg G__law_go hr gl__law_go (ja_cons (je_v v2) (ja_cons (je_v v1) ja_nil))))))
  (js_one (js_ret (je_v v1))))
theorem g__law_out (KX : K.In base) (GX : base.Ns mainGlobals mg) (c : He.SaysD fa fn K) (hxb : xb K = true) (hns : BaseOk K mg base) (htr : P.given.tree = none) : FnG P w K mg base "_law_out" 5 PG.sp__law_out [] := by
  obtain ⟨fd, F⟩ := c.def_ 55 (d := dd__law_out) rfl
  unfold PG.sp__law_out
  exact mkG (N := (["_law_train", "_law_ray", "_law_element"] : List Str)) false hns htr F (He.glo_ok KX GX (c.fact 55 (f := .glo "_law_out") rfl)) sc__law_out rfl rfl (fun _ _ _ _ _ _ us hl => match us, hl with | [_, _], _ => rfl) (fun X cdv A outer s H E hX hcd am => by subst hX; exact d__law_out am sc__law_out.nd rfl PassesOwn.never rfl rfl (fun _ => rfl) (g__law_go (P := P) (w := w) KX GX c hxb hns htr))

theorem sc__law_map : FnScope (["_law_train", "_law_zero", "_law_one", "_law_two", "_law_top", "_law_bottom"] : List Str) (["_law_train"] : List Str) (defScope s__law_map) := ⟨rfl, rfl, rfl, by decide +kernel, rfl, by decide +kernel, by decide +kernel⟩
theorem d__law_map {X : Cx} (am : Amb 5 X) (hN : X.N.Nodup) (hc : X.calm = true) (hxe : PassesOwn (model X.prog X.w) X.A X.env X.xe) (eN : X.N = (["_law_train", "_law_zero", "_law_one", "_law_two", "_law_top", "_law_bottom"] : List Str)) (eS : X.env.scope = defScope s__law_map) (hfn : ∀ x, X.fn x = true) (G__law_out : FnG X.prog X.w X.K X.mg X.base "_law_out" 5 PG.sp__law_out []) (G__law_sub : FnG X.prog X.w X.K X.mg X.base "_law_sub" 3 PG.sp__law_sub_2 []) : JSs X (defBody s__law_map) PG.w__law_map := by
  have hr := am.rm
  have n0 : X.N[0]? = some ("_law_train" : Str) := by rw [eN]; rfl
  have v0 : SlotOk X 0 "_law_train" := slot_of eS eN hfn rfl (.inl rfl)
  have n1 : X.N[1]? = some ("_law_zero" : Str) := by rw [eN]; rfl
  have v1 : SlotOk X 1 "_law_zero" := slot_of eS eN hfn rfl (.inl rfl)
  have n2 : X.N[2]? = some ("_law_one" : Str) := by rw [eN]; rfl
  have v2 : SlotOk X 2 "_law_one" := slot_of eS eN hfn rfl (.inl rfl)
  have n3 : X.N[3]? = some ("_law_two" : Str) := by rw [eN]; rfl
  have v3 : SlotOk X 3 "_law_two" := slot_of eS eN hfn rfl (.inl rfl)
  have n4 : X.N[4]? = some ("_law_top" : Str) := by rw [eN]; rfl
  have v4 : SlotOk X 4 "_law_top" := slot_of eS eN hfn rfl (.inl rfl)
  have n5 : X.N[5]? = some ("_law_bottom" : Str) := by rw [eN]; rfl
  have v5 : SlotOk X 5 "_law_bottom" := slot_of eS eN hfn rfl (.inl rfl)
  have gl__law_out : Gl X "_law_out" := gl_of eS rfl
  have gl__law_sub : Gl X "_law_sub" := gl_of eS rfl
  exact (js_cons (js_st hN v1 (je_cg G__law_out hr gl__law_out (ja_cons (je_v v0) (ja_cons (je_tup (ja_cons (je_tup (ja_cons je_int (ja_cons je_int ja_nil))) (ja_cons (je_tup (ja_cons je_int (ja_cons je_int ja_nil))) ja_nil))) ja_nil))))
  (js_cons (js_st hN v2 (je_cg G__law_out hr gl__law_out (ja_cons (je_v v0) (ja_cons (je_tup (ja_cons (je_tup (ja_cons je_int (ja_cons je_int ja_nil))) (ja_cons (je_tup (ja_cons je_int (ja_cons je_int ja_nil))) ja_nil))) ja_nil))))
  (js_cons (js_st hN v3 (je_cg G__law_out hr gl__law_out (ja_cons (je_v v0) (ja_cons (je_tup (ja_cons (je_tup (ja_cons je_int (ja_cons je_int ja_nil))) (ja_cons (je_tup (ja_cons je_int (ja_cons je_int ja_nil))) ja_nil))) ja_nil))))
  (js_cons (js_st hN v4 (je_tup (ja_cons (je_cg G__law_sub hr gl__law_sub (ja_cons (je_ix (je_v v2) je_int) (ja_cons (je_ix (je_v v1) je_int) ja_nil))) (ja_cons (je_cg G__law_sub hr gl__law_sub (ja_cons (je_ix (je_v v3) je_int) (ja_cons (je_ix (je_v v1) je_int) ja_nil))) ja_nil))))
  (js_cons (js_st hN v5 (je_tup (ja_cons (je_cg G__law_sub hr gl__law_sub (ja_cons (je_ix (je_v v2) je_int) (ja_cons (je_ix (je_v v1) je_int) ja_nil))) (ja_cons (je_cg G__law_sub hr gl__law_sub (ja_cons (je_ix (je_v v3) je_int) (ja_cons (je_ix (je_v v1) je_int) ja_nil))) ja_nil))))
  (js_one (js_ret (je_op o_addA (je_op o_addA (je_v v4) (je_v v5)) (je_v v1)))))))))
theorem g__law_map (KX : K.In base) (GX : base.Ns mainGlobals mg) (c : He.SaysD fa fn K) (hxb : xb K = true) (hns : BaseOk K mg base) (htr : P.given.tree = none) : FnG P w K mg base "_law_map" 6 PG.sp__law_map [] := by
  obtain ⟨fd, F⟩ := c.def_ 56 (d := dd__law_map) rfl
  unfold PG.sp__law_map
  exact mkG (N := (["_law_train", "_law_zero", "_law_one", "_law_two", "_law_top", "_law_bottom"] : List Str)) false hns htr F (He.glo_ok KX GX (c.fact 56 (f := .glo "_law_map") rfl)) sc__law_map rfl rfl (fun _ _ _ _ _ _ us hl => match us, hl with | [_], _ => rfl) (fun X cdv A outer s H E hX hcd am => by subst hX; exact d__law_map am sc__law_map.nd rfl PassesOwn.never rfl rfl (fun _ => rfl) (g__law_out (P := P) (w := w) KX GX c hxb hns htr) (g__law_sub (P := P) (w := w) KX GX c hxb hns htr))

theorem sc__law_plane : FnScope (["_law_p", "_law_q", "_law_r", "_law_whole", "_law_part", "_law_parts", "_law_share", "_law_one"] : List Str) (["_law_p", "_law_q", "_law_r"] : List Str) (defScope s__law_plane) := ⟨rfl, rfl, rfl, by decide +kernel, rfl, by decide +kernel, by decide +kernel⟩
theorem d__law_plane {X : Cx} (am : Amb 0 X) (hN : X.N.Nodup) (hc : X.calm = true) (hxe : PassesOwn (model X.prog X.w) X.A X.env X.xe) (eN : X.N = (["_law_p", "_law_q", "_law_r", "_law_whole", "_law_part", "_law_parts", "_law_share", "_law_one"] : List Str)) (eS : X.env.scope = defScope s__law_plane) (hfn : ∀ x, X.fn x = true) (fr_abs : X.mg "abs" = none) (fr_int : X.mg "int" = none) : JSs X (defBody s__law_plane) PG.w__law_plane := by
  have hr := am.rm
  have n0 : X.N[0]? = some ("_law_p" : Str) := by rw [eN]; rfl
  have v0 : SlotOk X 0 "_law_p" := slot_of eS eN hfn rfl (.inl rfl)
  have n1 : X.N[1]? = some ("_law_q" : Str) := by rw [eN]; rfl
  have v1 : SlotOk X 1 "_law_q" := slot_of eS eN hfn rfl (.inl rfl)
  have n2 : X.N[2]? = some ("_law_r" : Str) := by rw [eN]; rfl
  have v2 : SlotOk X 2 "_law_r" := slot_of eS eN hfn rfl (.inl rfl)
  have n3 : X.N[3]? = some ("_law_whole" : Str) := by rw [eN]; rfl
  have v3 : SlotOk X 3 "_law_whole" := slot_of eS eN hfn rfl (.inr rfl)
  have n4 : X.N[4]? = some ("_law_part" : Str) := by rw [eN]; rfl
  have v4 : SlotOk X 4 "_law_part" := slot_of eS eN hfn rfl (.inl rfl)
  have n5 : X.N[5]? = some ("_law_parts" : Str) := by rw [eN]; rfl
  have v5 : SlotOk X 5 "_law_parts" := slot_of eS eN hfn rfl (.inl rfl)
  have n6 : X.N[6]? = some ("_law_share" : Str) := by rw [eN]; rfl
  have v6 : SlotOk X 6 "_law_share" := slot_of eS eN hfn rfl (.inl rfl)
  have n7 : X.N[7]? = some ("_law_one" : Str) := by rw [eN]; rfl
  have v7 : SlotOk X 7 "_law_one" := slot_of eS eN hfn rfl (.inl rfl)
  have gl_abs : Gl X "abs" := gl_of eS rfl
  have gl_int : Gl X "int" := gl_of eS rfl
  exact (js_cons (js_st hN v3 (je_op o_mul (je_op o_mul (je_ix (je_v v0) je_int) (je_ix (je_v v1) je_int)) (je_ix (je_v v2) je_int)))
  (js_cons (js_setLc false (i := 5) (own' := [("_law_part", 4)]) (by decide) hc hN n5 (by rw [eS]; rfl) (sw_true (by rw [eS]; rfl) (by rw [eS]; rfl) rfl (by decide +kernel)) (ji_any (je_lst (ja_cons (je_v v0) (ja_cons (je_v v1) (ja_cons (je_v v2) ja_nil))))) (blk_of eN eS (own := [("_law_part", 4)]) (by decide +kernel)) (fun s H C cl fp => (jg_of (pg_name (i := 4) hN n4 (by first | exact .inl rfl | exact .inr rfl)))) (fun s H C cl fp => jts_nil) (fun s H C cl fp => (je_op o_mul (je_ix (je_var 4 n4 (hv := (by first | exact Or.inl rfl | exact Or.inr (Or.inl rfl) | exact vis_free (by decide +kernel)))) je_int) (je_op (o_fdiv am.py) (je_var 3 n3 (hv := vis_free (by decide +kernel))) (je_ix (je_var 4 n4 (hv := (by first | exact Or.inl rfl | exact Or.inr (Or.inl rfl) | exact vis_free (by decide +kernel)))) je_int)))))
  (js_cons (js_st hN v6 je_int)
  (js_cons (js_for hxe hc (ji_any (je_v v5)) (jg_of (pg_v hN v4))
  (js_cons (js_st hN v7 (je_bi b_abs gl_abs fr_abs RT.boot_abs (ja_cons (je_v v4) ja_nil)))
  (js_one (js_while hxe (jt_cmp o_gt (je_v v7) je_int (nomark _))
  (js_one (js_par (i := 6) (j := 7) hc hN n6 n7 (by decide) (by rw [eS]; rfl) (by rw [eS]; rfl) (ja_cons (je_v v7) (ja_cons (je_op o_mod (je_bty b_int gl_int fr_int RT.boot_int (ja_cons (je_v v6) ja_nil)) (je_bty b_int gl_int fr_int RT.boot_int (ja_cons (je_v v7) ja_nil))) ja_nil)) (swap_ok (by rw [eS]; rfl) (by rw [eS]; rfl) (by rw [eS]; rfl) (by decide) rfl rfl rfl (by decide +kernel) (by decide +kernel))))))))
  (js_one (js_ret (je_tup (ja_cons (je_op (o_fdiv am.py) (je_ix (je_v v5) je_int) (je_v v6)) (ja_cons (je_op (o_fdiv am.py) (je_ix (je_v v5) je_int) (je_v v6)) (ja_cons (je_op (o_fdiv am.py) (je_ix (je_v v5) je_int) (je_v v6)) ja_nil))))))))))
theorem g__law_plane (KX : K.In base) (GX : base.Ns mainGlobals mg) (c : He.SaysD fa fn K) (hxb : xb K = true) (hns : BaseOk K mg base) (htr : P.given.tree = none) : FnG P w K mg base "_law_plane" 1 PG.sp__law_plane [] := by
  obtain ⟨fd, F⟩ := c.def_ 57 (d := dd__law_plane) rfl
  unfold PG.sp__law_plane
  exact mkG (N := (["_law_p", "_law_q", "_law_r", "_law_whole", "_law_part", "_law_parts", "_law_share", "_law_one"] : List Str)) false hns htr F (He.glo_ok KX GX (c.fact 57 (f := .glo "_law_plane") rfl)) sc__law_plane rfl rfl (fun _ _ _ _ _ _ us hl => match us, hl with | [_, _, _], _ => rfl) (fun X cdv A outer s H E hX hcd am => by subst hX; exact d__law_plane am sc__law_plane.nd rfl PassesOwn.never rfl rfl (fun _ => rfl) (He.free_ok KX GX (c.fact 65 (f := .free "abs") rfl)) (He.free_ok KX GX (c.fact 74 (f := .free "int") rfl)))

theorem sc__law_edges : FnScope (["_law_train", "_law_found", "_law_place", "_law_element", "_law_a", "_law_b", "_law_c", "_law_d", "_law_e", "_law_f"] : List Str) (["_law_train"] : List Str) (defScope s__law_edges) := ⟨rfl, rfl, rfl, by decide +kernel, rfl, by decide +kernel, by decide +kernel⟩
theorem d__law_edges {X : Cx} (am : Amb 6 X) (hN : X.N.Nodup) (hc : X.calm = true) (hxe : PassesOwn (model X.prog X.w) X.A X.env X.xe) (eN : X.N = (["_law_train", "_law_found", "_law_place", "_law_element", "_law_a", "_law_b", "_law_c", "_law_d", "_law_e", "_law_f"] : List Str)) (eS : X.env.scope = defScope s__law_edges) (hfn : ∀ x, X.fn x = true) (fr_range : X.mg "range" = none) (fr_len : X.mg "len" = none) (G__law_map : FnG X.prog X.w X.K X.mg X.base "_law_map" 6 PG.sp__law_map []) (G__law_sub : FnG X.prog X.w X.K X.mg X.base "_law_sub" 3 PG.sp__law_sub_2 []) (G__law_neg : FnG X.prog X.w X.K X.mg X.base "_law_neg" 1 PG.sp__law_neg []) (G__law_plane : FnG X.prog X.w X.K X.mg X.base "_law_plane" 1 PG.sp__law_plane []) : JSs X (defBody s__law_edges) PG.w__law_edges_2 := by
  have hr := am.rm
  have n0 : X.N[0]? = some ("_law_train" : Str) := by rw [eN]; rfl
  have v0 : SlotOk X 0 "_law_train" := slot_of eS eN hfn rfl (.inl rfl)
  have n1 : X.N[1]? = some ("_law_found" : Str) := by rw [eN]; rfl
  have v1 : SlotOk X 1 "_law_found" := slot_of eS eN hfn rfl (.inl rfl)
  have n2 : X.N[2]? = some ("_law_place" : Str) := by rw [eN]; rfl
  have v2 : SlotOk X 2 "_law_place" := slot_of eS eN hfn rfl (.inl rfl)
  have n3 : X.N[3]? = some ("_law_element" : Str) := by rw [eN]; rfl
  have v3 : SlotOk X 3 "_law_element" := slot_of eS eN hfn rfl (.inl rfl)
  have n4 : X.N[4]? = some ("_law_a" : Str) := by rw [eN]; rfl
  have v4 : SlotOk X 4 "_law_a" := slot_of eS eN hfn rfl (.inl rfl)
  have n5 : X.N[5]? = some ("_law_b" : Str) := by rw [eN]; rfl
  have v5 : SlotOk X 5 "_law_b" := slot_of eS eN hfn rfl (.inl rfl)
  have n6 : X.N[6]? = some ("_law_c" : Str) := by rw [eN]; rfl
  have v6 : SlotOk X 6 "_law_c" := slot_of eS eN hfn rfl (.inl rfl)
  have n7 : X.N[7]? = some ("_law_d" : Str) := by rw [eN]; rfl
  have v7 : SlotOk X 7 "_law_d" := slot_of eS eN hfn rfl (.inl rfl)
  have n8 : X.N[8]? = some ("_law_e" : Str) := by rw [eN]; rfl
  have v8 : SlotOk X 8 "_law_e" := slot_of eS eN hfn rfl (.inl rfl)
  have n9 : X.N[9]? = some ("_law_f" : Str) := by rw [eN]; rfl
  have v9 : SlotOk X 9 "_law_f" := slot_of eS eN hfn rfl (.inl rfl)
  have gl_range : Gl X "range" := gl_of eS rfl
  have gl_len : Gl X "len" := gl_of eS rfl
  have gl__law_map : Gl X "_law_map" := gl_of eS rfl
  have gl__law_sub : Gl X "_law_sub" := gl_of eS rfl
  have gl__law_neg : Gl X "_law_neg" := gl_of eS rfl
  have gl__law_plane : Gl X "_law_plane" := gl_of eS rfl
  exact (js_cons (js_st hN v1 (je_lstO ja_nil))
  (js_cons (js_for hxe hc (ji_range1 gl_range fr_range (ja_cons (je_bi b_len gl_len fr_len RT.boot_len (ja_cons (je_v v0) ja_nil)) ja_nil)) (jg_of (pg_v hN v2))
  (js_cons (js_st hN v3 (je_ix (je_v v0) (je_v v2)))
  (js_one (js_if (jt_cmp (o_eq hr) (je_ix (je_v v3) je_int) je_str (nomark _))
  (js_cons (js_asg (je_cg G__law_map hr gl__law_map (ja_cons (je_sl false (je_v v0) jo_none (jo_some (je_v v2))) ja_nil)) (jg_of (pg_tup hc (pgs_cons (pg_v hN v4) (pgs_cons (pg_v hN v5) (pgs_cons (pg_v hN v6) (pgs_cons (pg_v hN v7) (pgs_cons (pg_v hN v8) (pgs_cons (pg_v hN v9) pgs_nil)))))))))
  (js_cons (js_if (jt_notN (je_ix (je_v v3) je_int))
  (js_one (js_do (je_meth PySem.F.slot_list_append PySem.F.type_list_append m_append (je_v v1) (ja_cons (je_tup (ja_cons (je_tup (ja_cons (je_v v2) (ja_cons je_str ja_nil))) (ja_cons (je_cg G__law_plane hr gl__law_plane (ja_cons (je_cg G__law_neg hr gl__law_neg (ja_cons (je_v v4) ja_nil)) (ja_cons (je_cg G__law_neg hr gl__law_neg (ja_cons (je_v v5) ja_nil)) (ja_cons (je_cg G__law_sub hr gl__law_sub (ja_cons (je_v v8) (ja_cons (je_ix (je_v v3) je_int) ja_nil))) ja_nil)))) ja_nil))) ja_nil))))
  js_nil)
  (js_one (js_if (jt_notN (je_ix (je_v v3) je_int))
  (js_one (js_do (je_meth PySem.F.slot_list_append PySem.F.type_list_append m_append (je_v v1) (ja_cons (je_tup (ja_cons (je_tup (ja_cons (je_v v2) (ja_cons je_str ja_nil))) (ja_cons (je_cg G__law_plane hr gl__law_plane (ja_cons (je_v v4) (ja_cons (je_v v5) (ja_cons (je_cg G__law_sub hr gl__law_sub (ja_cons (je_ix (je_v v3) je_int) (ja_cons (je_v v8) ja_nil))) ja_nil)))) ja_nil))) ja_nil))))
  js_nil))))
  js_nil))))
  (js_one (js_ret (je_v v1)))))
theorem g__law_edges (KX : K.In base) (GX : base.Ns mainGlobals mg) (c : He.SaysD fa fn K) (hxb : xb K = true) (hns : BaseOk K mg base) (htr : P.given.tree = none) : FnG P w K mg base "_law_edges" 7 PG.sp__law_edges_2 [] := by
  obtain ⟨fd, F⟩ := c.def_ 58 (d := dd__law_edges) rfl
  unfold PG.sp__law_edges_2
  exact mkG (N := (["_law_train", "_law_found", "_law_place", "_law_element", "_law_a", "_law_b", "_law_c", "_law_d", "_law_e", "_law_f"] : List Str)) false hns htr F (He.glo_ok KX GX (c.fact 58 (f := .glo "_law_edges") rfl)) sc__law_edges rfl rfl (fun _ _ _ _ _ _ us hl => match us, hl with | [_], _ => rfl) (fun X cdv A outer s H E hX hcd am => by subst hX; exact d__law_edges am sc__law_edges.nd rfl PassesOwn.never rfl rfl (fun _ => rfl) (He.free_ok KX GX (c.fact 70 (f := .free "range") rfl)) (He.free_ok KX GX (c.fact 69 (f := .free "len") rfl)) (g__law_map (P := P) (w := w) KX GX c hxb hns htr) (g__law_sub (P := P) (w := w) KX GX c hxb hns htr) (g__law_neg (P := P) (w := w) KX GX c hxb hns htr) (g__law_plane (P := P) (w := w) KX GX c hxb hns htr))

theorem sc__law_line : FnScope (["_law_plane_here", "_law_p", "_law_q", "_law_a", "_law_b", "_law_c", "_law_share", "_law_part"] : List Str) (["_law_plane_here", "_law_p", "_law_q"] : List Str) (defScope s__law_line) := ⟨rfl, rfl, rfl, by decide +kernel, rfl, by decide +kernel, by decide +kernel⟩
theorem d__law_line {X : Cx} (am : Amb 3 X) (hN : X.N.Nodup) (hc : X.calm = true) (hxe : PassesOwn (model X.prog X.w) X.A X.env X.xe) (eN : X.N = (["_law_plane_here", "_law_p", "_law_q", "_law_a", "_law_b", "_law_c", "_law_share", "_law_part"] : List Str)) (eS : X.env.scope = defScope s__law_line) (hfn : ∀ x, X.fn x = true) (G__law_div : FnG X.prog X.w X.K X.mg X.base "_law_div" 2 PG.sp__law_div []) (G__law_mul : FnG X.prog X.w X.K X.mg X.base "_law_mul" 2 PG.sp__law_mul_2 []) (G__law_sub : FnG X.prog X.w X.K X.mg X.base "_law_sub" 3 PG.sp__law_sub_2 []) : JSs X (defBody s__law_line) PG.w__law_line_2 := by
  have hr := am.rm
  have n0 : X.N[0]? = some ("_law_plane_here" : Str) := by rw [eN]; rfl
  have v0 : SlotOk X 0 "_law_plane_here" := slot_of eS eN hfn rfl (.inl rfl)
  have n1 : X.N[1]? = some ("_law_p" : Str) := by rw [eN]; rfl
  have v1 : SlotOk X 1 "_law_p" := slot_of eS eN hfn rfl (.inl rfl)
  have n2 : X.N[2]? = some ("_law_q" : Str) := by rw [eN]; rfl
  have v2 : SlotOk X 2 "_law_q" := slot_of eS eN hfn rfl (.inl rfl)
  have n3 : X.N[3]? = some ("_law_a" : Str) := by rw [eN]; rfl
  have v3 : SlotOk X 3 "_law_a" := slot_of eS eN hfn rfl (.inl rfl)
  have n4 : X.N[4]? = some ("_law_b" : Str) := by rw [eN]; rfl
  have v4 : SlotOk X 4 "_law_b" := slot_of eS eN hfn rfl (.inl rfl)
  have n5 : X.N[5]? = some ("_law_c" : Str) := by rw [eN]; rfl
  have v5 : SlotOk X 5 "_law_c" := slot_of eS eN hfn rfl (.inl rfl)
  have n6 : X.N[6]? = some ("_law_share" : Str) := by rw [eN]; rfl
  have v6 : SlotOk X 6 "_law_share" := slot_of eS eN hfn rfl (.inl rfl)
  have n7 : X.N[7]? = some ("_law_part" : Str) := by rw [eN]; rfl
  have gl__law_div : Gl X "_law_div" := gl_of eS rfl
  have gl__law_mul : Gl X "_law_mul" := gl_of eS rfl
  have gl__law_sub : Gl X "_law_sub" := gl_of eS rfl
  exact (js_cons (js_asgL (je_lc false (own' := [("_law_part", 7)]) (by decide) hc hN (ji_any (je_v v0)) (blk_of eN eS (own := [("_law_part", 7)]) (by decide +kernel)) (fun s H C cl fp => (jg_of (pg_name (i := 7) hN n7 (by first | exact .inl rfl | exact .inr rfl)))) (fun s H C cl fp => jts_nil) (fun s H C cl fp => (je_tup (ja_cons (je_var 7 n7 (hv := (by first | exact Or.inl rfl | exact Or.inr (Or.inl rfl) | exact vis_free (by decide +kernel)))) (ja_cons je_int ja_nil))))) (pg_lst hc (pgs_cons (pg_v hN v3) (pgs_cons (pg_v hN v4) (pgs_cons (pg_v hN v5) pgs_nil)))))
  (js_cons (js_if (jt_cmp (o_ne hr) (je_ix (je_v v2) je_int) je_int (nomark _))
  (js_cons (js_st hN v6 (je_cg G__law_div hr gl__law_div (ja_cons (je_v v4) (ja_cons (je_v v2) ja_nil))))
  (js_one (js_ret (je_tup (ja_cons (je_v v6) (ja_cons (je_cg G__law_sub hr gl__law_sub (ja_cons (je_v v3) (ja_cons (je_cg G__law_mul hr gl__law_mul (ja_cons (je_v v6) (ja_cons (je_v v1) ja_nil))) ja_nil))) (ja_cons (je_v v5) ja_nil)))))))
  js_nil)
  (js_one (js_ret (je_tup (ja_cons (je_cg G__law_div hr gl__law_div (ja_cons (je_v v3) (ja_cons (je_v v1) ja_nil))) (ja_cons (je_v v4) (ja_cons (je_v v5) ja_nil))))))))
theorem g__law_line (KX : K.In base) (GX : base.Ns mainGlobals mg) (c : He.SaysD fa fn K) (hxb : xb K = true) (hns : BaseOk K mg base) (htr : P.given.tree = none) : FnG P w K mg base "_law_line" 4 PG.sp__law_line_2 [] := by
  obtain ⟨fd, F⟩ := c.def_ 59 (d := dd__law_line) rfl
  unfold PG.sp__law_line_2
  exact mkG (N := (["_law_plane_here", "_law_p", "_law_q", "_law_a", "_law_b", "_law_c", "_law_share", "_law_part"] : List Str)) false hns htr F (He.glo_ok KX GX (c.fact 59 (f := .glo "_law_line") rfl)) sc__law_line rfl rfl (fun _ _ _ _ _ _ us hl => match us, hl with | [_, _, _], _ => rfl) (fun X cdv A outer s H E hX hcd am => by subst hX; exact d__law_line am sc__law_line.nd rfl PassesOwn.never rfl rfl (fun _ => rfl) (g__law_div (P := P) (w := w) KX GX c hxb hns htr) (g__law_mul (P := P) (w := w) KX GX c hxb hns htr) (g__law_sub (P := P) (w := w) KX GX c hxb hns htr))

theorem sc__law_bounds : FnScope (["_law_planes", "_law_p", "_law_q", "_law_lines", "_law_rows", "_law_one", "_law_other", "_law_share", "_law_top", "_law_lower", "_law_upper", "_law_row_here", "_law_least_here", "_law_most", "_law_plane_here", "_law_line_here"] : List Str) (["_law_planes", "_law_p", "_law_q"] : List Str) (defScope s__law_bounds) := ⟨rfl, rfl, rfl, by decide +kernel, rfl, by decide +kernel, by decide +kernel⟩
theorem d__law_bounds {X : Cx} (am : Amb 4 X) (hN : X.N.Nodup) (hc : X.calm = true) (hxe : PassesOwn (model X.prog X.w) X.A X.env X.xe) (eN : X.N = (["_law_planes", "_law_p", "_law_q", "_law_lines", "_law_rows", "_law_one", "_law_other", "_law_share", "_law_top", "_law_lower", "_law_upper", "_law_row_here", "_law_least_here", "_law_most", "_law_plane_here", "_law_line_here"] : List Str)) (eS : X.env.scope = defScope s__law_bounds) (hfn : ∀ x, X.fn x = true) (G__law_line : FnG X.prog X.w X.K X.mg X.base "_law_line" 4 PG.sp__law_line_2 []) (G__law_div : FnG X.prog X.w X.K X.mg X.base "_law_div" 2 PG.sp__law_div []) (G__law_neg : FnG X.prog X.w X.K X.mg X.base "_law_neg" 1 PG.sp__law_neg []) (G__law_mul : FnG X.prog X.w X.K X.mg X.base "_law_mul" 2 PG.sp__law_mul_2 []) (G__law_add : FnG X.prog X.w X.K X.mg X.base "_law_add" 2 PG.sp__law_add_2 []) (G__law_greatest : FnG X.prog X.w X.K X.mg X.base "_law_greatest" 2 PG.sp__law_greatest []) (G__law_least : FnG X.prog X.w X.K X.mg X.base "_law_least" 2 PG.sp__law_least_3 []) (G__law_less : FnG X.prog X.w X.K X.mg X.base "_law_less" 1 PG.sp__law_less []) : JSs X (defBody s__law_bounds) PG.w__law_bounds_2 := by
  have hr := am.rm
  have n0 : X.N[0]? = some ("_law_planes" : Str) := by rw [eN]; rfl
  have v0 : SlotOk X 0 "_law_planes" := slot_of eS eN hfn rfl (.inl rfl)
  have n1 : X.N[1]? = some ("_law_p" : Str) := by rw [eN]; rfl
  have v1 : SlotOk X 1 "_law_p" := slot_of eS eN hfn rfl (.inr rfl)
  have n2 : X.N[2]? = some ("_law_q" : Str) := by rw [eN]; rfl
  have v2 : SlotOk X 2 "_law_q" := slot_of eS eN hfn rfl (.inr rfl)
  have n3 : X.N[3]? = some ("_law_lines" : Str) := by rw [eN]; rfl
  have v3 : SlotOk X 3 "_law_lines" := slot_of eS eN hfn rfl (.inl rfl)
  have n4 : X.N[4]? = some ("_law_rows" : Str) := by rw [eN]; rfl
  have v4 : SlotOk X 4 "_law_rows" := slot_of eS eN hfn rfl (.inl rfl)
  have n5 : X.N[5]? = some ("_law_one" : Str) := by rw [eN]; rfl
  have v5 : SlotOk X 5 "_law_one" := slot_of eS eN hfn rfl (.inl rfl)
  have n6 : X.N[6]? = some ("_law_other" : Str) := by rw [eN]; rfl
  have v6 : SlotOk X 6 "_law_other" := slot_of eS eN hfn rfl (.inl rfl)
  have n7 : X.N[7]? = some ("_law_share" : Str) := by rw [eN]; rfl
  have v7 : SlotOk X 7 "_law_share" := slot_of eS eN hfn rfl (.inl rfl)
  have n8 : X.N[8]? = some ("_law_top" : Str) := by rw [eN]; rfl
  have v8 : SlotOk X 8 "_law_top" := slot_of eS eN hfn rfl (.inl rfl)
  have n9 : X.N[9]? = some ("_law_lower" : Str) := by rw [eN]; rfl
  have v9 : SlotOk X 9 "_law_lower" := slot_of eS eN hfn rfl (.inl rfl)
  have n10 : X.N[10]? = some ("_law_upper" : Str) := by rw [eN]; rfl
  have v10 : SlotOk X 10 "_law_upper" := slot_of eS eN hfn rfl (.inl rfl)
  have n11 : X.N[11]? = some ("_law_row_here" : Str) := by rw [eN]; rfl
  have v11 : SlotOk X 11 "_law_row_here" := slot_of eS eN hfn rfl (.inl rfl)
  have n12 : X.N[12]? = some ("_law_least_here" : Str) := by rw [eN]; rfl
  have v12 : SlotOk X 12 "_law_least_here" := slot_of eS eN hfn rfl (.inl rfl)
  have n13 : X.N[13]? = some ("_law_most" : Str) := by rw [eN]; rfl
  have v13 : SlotOk X 13 "_law_most" := slot_of eS eN hfn rfl (.inl rfl)
  have n14 : X.N[14]? = some ("_law_plane_here" : Str) := by rw [eN]; rfl
  have n15 : X.N[15]? = some ("_law_line_here" : Str) := by rw [eN]; rfl
  have gl__law_div : Gl X "_law_div" := gl_of eS rfl
  have gl__law_neg : Gl X "_law_neg" := gl_of eS rfl
  have gl__law_mul : Gl X "_law_mul" := gl_of eS rfl
  have gl__law_add : Gl X "_law_add" := gl_of eS rfl
  have gl__law_greatest : Gl X "_law_greatest" := gl_of eS rfl
  have gl__law_least : Gl X "_law_least" := gl_of eS rfl
  have gl__law_less : Gl X "_law_less" := gl_of eS rfl
  exact (js_cons (js_setLc false (i := 3) (own' := [("_law_plane_here", 14)]) (by decide) hc hN n3 (by rw [eS]; rfl) (sw_true (by rw [eS]; rfl) (by rw [eS]; rfl) rfl (by decide +kernel)) (ji_any (je_v v0)) (blk_of eN eS (own := [("_law_plane_here", 14)]) (by decide +kernel)) (fun s H C cl fp => (jg_of (pg_name (i := 14) hN n14 (by first | exact .inl rfl | exact .inr rfl)))) (fun s H C cl fp => jts_nil) (fun s H C cl fp => (je_cg G__law_line hr (by rfl) (ja_cons (je_var 14 n14 (hv := (by first | exact Or.inl rfl | exact Or.inr (Or.inl rfl) | exact vis_free (by decide +kernel)))) (ja_cons (je_var 1 n1 (hv := vis_free (by decide +kernel))) (ja_cons (je_var 2 n2 (hv := vis_free (by decide +kernel))) ja_nil))))))
  (js_cons (js_setLc true (i := 4) (own' := [("_law_line_here", 15)]) (by decide) hc hN n4 (by rw [eS]; rfl) (sw_true (by rw [eS]; rfl) (by rw [eS]; rfl) rfl (by decide +kernel)) (ji_any (je_v v3)) (blk_of eN eS (own := [("_law_line_here", 15)]) (by decide +kernel)) (fun s H C cl fp => (jg_of (pg_name (i := 15) hN n15 (by first | exact .inl rfl | exact .inr rfl)))) (fun s H C cl fp => (jts_one (jt_cmp (o_eq hr) (je_ix (je_ix (je_var 15 n15 (hv := (by first | exact Or.inl rfl | exact Or.inr (Or.inl rfl) | exact vis_free (by decide +kernel)))) je_int) je_int) je_int (nomark _)))) (fun s H C cl fp => (je_var 15 n15 (hv := (by first | exact Or.inl rfl | exact Or.inr (Or.inl rfl) | exact vis_free (by decide +kernel))))))
  (js_cons (js_for hxe hc (ji_any (je_lc false (own' := [("_law_line_here", 15)]) (by decide) hc hN (ji_any (je_v v3)) (blk_of eN eS (own := [("_law_line_here", 15)]) (by decide +kernel)) (fun s H C cl fp => (jg_of (pg_name (i := 15) hN n15 (by first | exact .inl rfl | exact .inr rfl)))) (fun s H C cl fp => (jts_one (jt_cmp o_gt (je_ix (je_ix (je_var 15 n15 (hv := (by first | exact Or.inl rfl | exact Or.inr (Or.inl rfl) | exact vis_free (by decide +kernel)))) je_int) je_int) je_int (nomark _)))) (fun s H C cl fp => (je_var 15 n15 (hv := (by first | exact Or.inl rfl | exact Or.inr (Or.inl rfl) | exact vis_free (by decide +kernel))))))) (jg_of (pg_v hN v5))
  (js_one (js_for hxe hc (ji_any (je_lc false (own' := [("_law_line_here", 15)]) (by decide) hc hN (ji_any (je_v v3)) (blk_of eN eS (own := [("_law_line_here", 15)]) (by decide +kernel)) (fun s H C cl fp => (jg_of (pg_name (i := 15) hN n15 (by first | exact .inl rfl | exact .inr rfl)))) (fun s H C cl fp => (jts_one (jt_cmp o_lt (je_ix (je_ix (je_var 15 n15 (hv := (by first | exact Or.inl rfl | exact Or.inr (Or.inl rfl) | exact vis_free (by decide +kernel)))) je_int) je_int) je_int (nomark _)))) (fun s H C cl fp => (je_var 15 n15 (hv := (by first | exact Or.inl rfl | exact Or.inr (Or.inl rfl) | exact vis_free (by decide +kernel))))))) (jg_of (pg_v hN v6))
  (js_cons (js_st hN v7 (je_cg G__law_neg hr gl__law_neg (ja_cons (je_cg G__law_div hr gl__law_div (ja_cons (je_ix (je_v v5) je_int) (ja_cons (je_ix (je_v v6) je_int) ja_nil))) ja_nil)))
  (js_cons (js_st hN v8 (je_cg G__law_add hr gl__law_add (ja_cons (je_ix (je_v v5) je_int) (ja_cons (je_cg G__law_mul hr gl__law_mul (ja_cons (je_v v7) (ja_cons (je_ix (je_v v6) je_int) ja_nil))) ja_nil))))
  (js_one (js_do (je_meth PySem.F.slot_list_append PySem.F.type_list_append m_append (je_v v4) (ja_cons (je_tup (ja_cons (je_v v8) (ja_cons (je_tup (ja_cons je_int (ja_cons je_int ja_nil))) (ja_cons (je_cg G__law_add hr gl__law_add (ja_cons (je_ix (je_v v5) je_int) (ja_cons (je_cg G__law_mul hr gl__law_mul (ja_cons (je_v v7) (ja_cons (je_ix (je_v v6) je_int) ja_nil))) ja_nil))) ja_nil)))) ja_nil)))))))))
  (js_cons (js_st hN v9 (je_lstO ja_nil))
  (js_cons (js_st hN v10 (je_lstO ja_nil))
  (js_cons (js_for hxe hc (ji_any (je_v v4)) (jg_of (pg_v hN v11))
  (js_cons (js_if (jw_pt (jw_and (jt_cmp (o_eq hr) (je_ix (je_ix (je_v v11) je_int) je_int) je_int (nomark _)) (jw_and1 (jt_cmp o_lt (je_ix (je_ix (je_v v11) je_int) je_int) je_int (nomark _)))))
  (js_one (js_ret (je_tup ja_nil)))
  js_nil)
  (js_cons (js_if (jt_cmp o_gt (je_ix (je_ix (je_v v11) je_int) je_int) je_int (nomark _))
  (js_one (js_do (je_meth PySem.F.slot_list_append PySem.F.type_list_append m_append (je_v v10) (ja_cons (je_cg G__law_div hr gl__law_div (ja_cons (je_ix (je_v v11) je_int) (ja_cons (je_ix (je_v v11) je_int) ja_nil))) ja_nil))))
  js_nil)
  (js_one (js_if (jt_cmp o_lt (je_ix (je_ix (je_v v11) je_int) je_int) je_int (nomark _))
  (js_one (js_do (je_meth PySem.F.slot_list_append PySem.F.type_list_append m_append (je_v v9) (ja_cons (je_cg G__law_div hr gl__law_div (ja_cons (je_ix (je_v v11) je_int) (ja_cons (je_ix (je_v v11) je_int) ja_nil))) ja_nil))))
  js_nil)))))
  (js_cons (js_st hN v12 (je_cg G__law_greatest hr gl__law_greatest (ja_cons (je_f v9) ja_nil)))
  (js_cons (js_st hN v13 (je_cg G__law_least hr gl__law_least (ja_cons (je_f v10) ja_nil)))
  (js_cons (js_if (jw_pt (jw_and (jt_notN (je_v v12)) (jw_and (jt_notN (je_v v13)) (jw_and1 (jt_tru (je_cg G__law_less hr gl__law_less (ja_cons (je_v v13) (ja_cons (je_v v12) ja_nil))))))))
  (js_one (js_ret (je_tup ja_nil)))
  js_nil)
  (js_one (js_ret (je_tup (ja_cons (je_v v12) (ja_cons (je_v v13) ja_nil))))))))))))))
theorem g__law_bounds (KX : K.In base) (GX : base.Ns mainGlobals mg) (c : He.SaysD fa fn K) (hxb : xb K = true) (hns : BaseOk K mg base) (htr : P.given.tree = none) : FnG P w K mg base "_law_bounds" 5 PG.sp__law_bounds_2 [] := by
  obtain ⟨fd, F⟩ := c.def_ 60 (d := dd__law_bounds) rfl
  unfold PG.sp__law_bounds_2
  exact mkG (N := (["_law_planes", "_law_p", "_law_q", "_law_lines", "_law_rows", "_law_one", "_law_other", "_law_share", "_law_top", "_law_lower", "_law_upper", "_law_row_here", "_law_least_here", "_law_most", "_law_plane_here", "_law_line_here"] : List Str)) false hns htr F (He.glo_ok KX GX (c.fact 60 (f := .glo "_law_bounds") rfl)) sc__law_bounds rfl rfl (fun _ _ _ _ _ _ us hl => match us, hl with | [_, _, _], _ => rfl) (fun X cdv A outer s H E hX hcd am => by subst hX; exact d__law_bounds am sc__law_bounds.nd rfl PassesOwn.never rfl rfl (fun _ => rfl) (g__law_line (P := P) (w := w) KX GX c hxb hns htr) (g__law_div (P := P) (w := w) KX GX c hxb hns htr) (g__law_neg (P := P) (w := w) KX GX c hxb hns htr) (g__law_mul (P := P) (w := w) KX GX c hxb hns htr) (g__law_add (P := P) (w := w) KX GX c hxb hns htr) (g__law_greatest (P := P) (w := w) KX GX c hxb hns htr) (g__law_least (P := P) (w := w) KX GX c hxb hns htr) (g__law_less (P := P) (w := w) KX GX c hxb hns htr))

theorem sc__law_implied : FnScope (["_law_planes", "_law_plane_here", "_law_bounds_here"] : List Str) (["_law_planes", "_law_plane_here"] : List Str) (defScope s__law_implied) := ⟨rfl, rfl, rfl, by decide +kernel, rfl, by decide +kernel, by decide +kernel⟩
theorem d__law_implied {X : Cx} (am : Amb 5 X) (hN : X.N.Nodup) (hc : X.calm = true) (hxe : PassesOwn (model X.prog X.w) X.A X.env X.xe) (eN : X.N = (["_law_planes", "_law_plane_here", "_law_bounds_here"] : List Str)) (eS : X.env.scope = defScope s__law_implied) (hfn : ∀ x, X.fn x = true) (G__law_bounds : FnG X.prog X.w X.K X.mg X.base "_law_bounds" 5 PG.sp__law_bounds_2 []) (G__law_less : FnG X.prog X.w X.K X.mg X.base "_law_less" 1 PG.sp__law_less []) : JSs X (defBody s__law_implied) PG.w__law_implied := by
  have hr := am.rm
  have n0 : X.N[0]? = some ("_law_planes" : Str) := by rw [eN]; rfl
  have v0 : SlotOk X 0 "_law_planes" := slot_of eS eN hfn rfl (.inl rfl)
  have n1 : X.N[1]? = some ("_law_plane_here" : Str) := by rw [eN]; rfl
  have v1 : SlotOk X 1 "_law_plane_here" := slot_of eS eN hfn rfl (.inl rfl)
  have n2 : X.N[2]? = some ("_law_bounds_here" : Str) := by rw [eN]; rfl
  have v2 : SlotOk X 2 "_law_bounds_here" := slot_of eS eN hfn rfl (.inl rfl)
  have gl__law_bounds : Gl X "_law_bounds" := gl_of eS rfl
  have gl__law_less : Gl X "_law_less" := gl_of eS rfl
  exact (js_cons (js_st hN v2 (je_cg G__law_bounds hr gl__law_bounds (ja_cons (je_v v0) (ja_cons (je_tup (ja_cons (je_ix (je_v v1) je_int) (ja_cons je_int ja_nil))) (ja_cons (je_tup (ja_cons (je_ix (je_v v1) je_int) (ja_cons je_int ja_nil))) ja_nil)))))
  (js_cons (js_if (jt_cmp (o_eq hr) (je_v v2) (je_tup ja_nil) (nomark _))
  (js_one (js_ret je_bl))
  js_nil)
  (js_one (js_ret (je_and (je_notN (je_ix (je_v v2) je_int)) (je_one (je_notV (je_cg G__law_less hr gl__law_less (ja_cons (je_tup (ja_cons (je_ix (je_v v1) je_int) (ja_cons je_int ja_nil))) (ja_cons (je_ix (je_v v2) je_int) ja_nil))))))))))
theorem g__law_implied (KX : K.In base) (GX : base.Ns mainGlobals mg) (c : He.SaysD fa fn K) (hxb : xb K = true) (hns : BaseOk K mg base) (htr : P.given.tree = none) : FnG P w K mg base "_law_implied" 6 PG.sp__law_implied [] := by
  obtain ⟨fd, F⟩ := c.def_ 61 (d := dd__law_implied) rfl
  unfold PG.sp__law_implied
  exact mkG (N := (["_law_planes", "_law_plane_here", "_law_bounds_here"] : List Str)) false hns htr F (He.glo_ok KX GX (c.fact 61 (f := .glo "_law_implied") rfl)) sc__law_implied rfl rfl (fun _ _ _ _ _ _ us hl => match us, hl with | [_, _], _ => rfl) (fun X cdv A outer s H E hX hcd am => by subst hX; exact d__law_implied am sc__law_implied.nd rfl PassesOwn.never rfl rfl (fun _ => rfl) (g__law_bounds (P := P) (w := w) KX GX c hxb hns htr) (g__law_less (P := P) (w := w) KX GX c hxb hns htr))

theorem sc__law_cavity : FnScope (["_law_box_here", "_law_gap", "_law_lens", "_law_found", "_law_kind", "_law_element"] : List Str) (["_law_box_here"] : List Str) (defScope s__law_cavity) := ⟨rfl, rfl, rfl, by decide +kernel, rfl, by decide +kernel, by decide +kernel⟩
theorem d__law_cavity {X : Cx} (am : Amb 3 X) (hN : X.N.Nodup) (hc : X.calm = true) (hxe : PassesOwn (model X.prog X.w) X.A X.env X.xe) (eN : X.N = (["_law_box_here", "_law_gap", "_law_lens", "_law_found", "_law_kind", "_law_element"] : List Str)) (eS : X.env.scope = defScope s__law_cavity) (hfn : ∀ x, X.fn x = true) (G__law_draw : FnG X.prog X.w X.K X.mg X.base "_law_draw" 1 PG.sp__law_draw_2 []) (G__law_stop : FnG X.prog X.w X.K X.mg X.base "_law_stop" 3 PG.sp__law_stop_2 []) (G__law_fraction : FnG X.prog X.w X.K X.mg X.base "_law_fraction" 2 PG.sp__law_fraction []) : JSs X (defBody s__law_cavity) PG.w__law_cavity := by
  have hr := am.rm
  have n0 : X.N[0]? = some ("_law_box_here" : Str) := by rw [eN]; rfl
  have v0 : SlotOk X 0 "_law_box_here" := slot_of eS eN hfn rfl (.inl rfl)
  have n1 : X.N[1]? = some ("_law_gap" : Str) := by rw [eN]; rfl
  have v1 : SlotOk X 1 "_law_gap" := slot_of eS eN hfn rfl (.inl rfl)
  have n2 : X.N[2]? = some ("_law_lens" : Str) := by rw [eN]; rfl
  have v2 : SlotOk X 2 "_law_lens" := slot_of eS eN hfn rfl (.inl rfl)
  have n3 : X.N[3]? = some ("_law_found" : Str) := by rw [eN]; rfl
  have v3 : SlotOk X 3 "_law_found" := slot_of eS eN hfn rfl (.inl rfl)
  have n4 : X.N[4]? = some ("_law_kind" : Str) := by rw [eN]; rfl
  have v4 : SlotOk X 4 "_law_kind" := slot_of eS eN hfn rfl (.inl rfl)
  have n5 : X.N[5]? = some ("_law_element" : Str) := by rw [eN]; rfl
  have gl__law_draw : Gl X "_law_draw" := gl_of eS rfl
  have gl__law_stop : Gl X "_law_stop" := gl_of eS rfl
  have gl__law_fraction : Gl X "_law_fraction" := gl_of eS rfl
  exact (js_cons (js_st hN v1 (je_tup (ja_cons je_str (ja_cons (je_ix (je_lst (ja_cons (je_tup (ja_cons je_int (ja_cons je_int ja_nil))) (ja_cons (je_tup (ja_cons je_int (ja_cons je_int ja_nil))) (ja_cons (je_tup (ja_cons je_int (ja_cons je_int ja_nil))) (ja_cons (je_tup (ja_cons (je_neg je_int) (ja_cons je_int ja_nil))) ja_nil))))) (je_cg G__law_draw hr gl__law_draw (ja_cons (je_v v0) (ja_cons je_int ja_nil)))) ja_nil))))
  (js_cons (js_st hN v2 (je_tup (ja_cons je_str (ja_cons (je_ix (je_lst (ja_cons (je_tup (ja_cons je_int (ja_cons je_int ja_nil))) (ja_cons (je_tup (ja_cons je_int (ja_cons je_int ja_nil))) (ja_cons (je_tup (ja_cons je_int (ja_cons je_int ja_nil))) (ja_cons (je_tup (ja_cons je_int (ja_cons je_int ja_nil))) (ja_cons (je_tup (ja_cons je_int (ja_cons je_int ja_nil))) (ja_cons (je_tup (ja_cons (je_neg je_int) (ja_cons je_int ja_nil))) (ja_cons (je_tup (ja_cons je_int (ja_cons je_int ja_nil))) ja_nil)))))))) (je_cg G__law_draw hr gl__law_draw (ja_cons (je_v v0) (ja_cons je_int ja_nil)))) (ja_cons (je_ix (je_lst (ja_cons (je_tup (ja_cons je_int (ja_cons je_int ja_nil))) (ja_cons (je_tup (ja_cons je_int (ja_cons je_int ja_nil))) (ja_cons (je_tup (ja_cons je_int (ja_cons je_int ja_nil))) ja_nil)))) (je_cg G__law_draw hr gl__law_draw (ja_cons (je_v v0) (ja_cons je_int ja_nil)))) ja_nil)))))
  (js_cons (js_st hN v3 (je_lstO (ja_cons (je_cg G__law_stop hr gl__law_stop (ja_cons (je_v v0) ja_nil)) (ja_cons (je_v v1) (ja_cons (je_v v2) ja_nil)))))
  (js_cons (js_st hN v4 (je_cg G__law_draw hr gl__law_draw (ja_cons (je_v v0) (ja_cons je_int ja_nil))))
  (js_cons (js_if (jt_cmp (o_eq hr) (je_v v4) je_int (nomark _))
  (js_one (js_st hN v3 (je_lstO (ja_cons (je_cg G__law_stop hr gl__law_stop (ja_cons (je_v v0) ja_nil)) (ja_cons (je_tup (ja_cons je_str (ja_cons (je_ix (je_lst (ja_cons (je_tup (ja_cons je_int (ja_cons je_int ja_nil))) (ja_cons (je_tup (ja_cons (je_neg je_int) (ja_cons je_int ja_nil))) (ja_cons (je_tup (ja_cons je_int (ja_cons je_int ja_nil))) ja_nil)))) (je_cg G__law_draw hr gl__law_draw (ja_cons (je_v v0) (ja_cons je_int ja_nil)))) ja_nil))) ja_nil)))))
  js_nil)
  (js_cons (js_if (jt_cmp (o_eq hr) (je_v v4) je_int (nomark _))
  (js_one (js_st hN v3 (je_lstO (ja_cons (je_cg G__law_stop hr gl__law_stop (ja_cons (je_v v0) ja_nil)) (ja_cons (je_v v1) ja_nil)))))
  js_nil)
  (js_cons (js_if (jt_cmp (o_eq hr) (je_v v4) je_int (nomark _))
  (js_one (js_do (je_meth PySem.F.slot_list_append PySem.F.type_list_append m_append (je_v v3) (ja_cons (je_tup (ja_cons je_str (ja_cons (je_cg G__law_fraction hr gl__law_fraction (ja_cons (je_v v0) ja_nil)) ja_nil))) ja_nil))))
  js_nil)
  (js_cons (js_if (jt_cmp (o_eq hr) (je_cg G__law_draw hr gl__law_draw (ja_cons (je_v v0) (ja_cons je_int ja_nil))) je_int (nomark _))
  (js_one (js_do (je_meth PySem.F.slot_list_append PySem.F.type_list_append m_append (je_v v3) (ja_cons (je_cg G__law_stop hr gl__law_stop (ja_cons (je_v v0) ja_nil)) ja_nil))))
  js_nil)
  (js_cons (js_if (jt_cmp (o_eq hr) (je_cg G__law_draw hr gl__law_draw (ja_cons (je_v v0) (ja_cons je_int ja_nil))) je_int (nomark _))
  (js_one (js_st hN v3 (je_cat true (je_lc false (own' := [("_law_element", 5)]) (by decide) hc hN (ji_any (je_v v3)) (blk_of eN eS (own := [("_law_element", 5)]) (by decide +kernel)) (fun s H C cl fp => (jg_of (pg_name (i := 5) hN n5 (by first | exact .inl rfl | exact .inr rfl)))) (fun s H C cl fp => (jts_one (jt_cmp (o_ne hr) (je_ix (je_var 5 n5 (hv := (by first | exact Or.inl rfl | exact Or.inr (Or.inl rfl) | exact vis_free (by decide +kernel)))) je_int) je_str (nomark _)))) (fun s H C cl fp => (je_var 5 n5 (hv := (by first | exact Or.inl rfl | exact Or.inr (Or.inl rfl) | exact vis_free (by decide +kernel)))))) (je_lst (ja_cons (je_tup (ja_cons je_str (ja_cons (je_tup (ja_cons (je_neg je_int) (ja_cons je_int ja_nil))) (ja_cons (je_tup (ja_cons je_int (ja_cons je_int ja_nil))) ja_nil)))) ja_nil)))))
  js_nil)
  (js_one (js_ret (je_v v3))))))))))))
theorem g__law_cavity (KX : K.In base) (GX : base.Ns mainGlobals mg) (c : He.SaysD fa fn K) (hxb : xb K = true) (hns : BaseOk K mg base) (htr : P.given.tree = none) : FnG P w K mg base "_law_cavity" 4 PG.sp__law_cavity [] := by
  obtain ⟨fd, F⟩ := c.def_ 62 (d := dd__law_cavity) rfl
  unfold PG.sp__law_cavity
  exact mkG (N := (["_law_box_here", "_law_gap", "_law_lens", "_law_found", "_law_kind", "_law_element"] : List Str)) false hns htr F (He.glo_ok KX GX (c.fact 62 (f := .glo "_law_cavity") rfl)) sc__law_cavity rfl rfl (fun _ _ _ _ _ _ us hl => match us, hl with | [_], _ => rfl) (fun X cdv A outer s H E hX hcd am => by subst hX; exact d__law_cavity am sc__law_cavity.nd rfl PassesOwn.never rfl rfl (fun _ => rfl) (g__law_draw (P := P) (w := w) KX GX c hxb hns htr) (g__law_stop (P := P) (w := w) KX GX c hxb hns htr) (g__law_fraction (P := P) (w := w) KX GX c hxb hns htr))

theorem sc__law_way : FnScope (["_law_train", "_law_many", "_law_planes", "_law_turn", "_law_plane_here"] : List Str) (["_law_train", "_law_many"] : List Str) (defScope s__law_way) := ⟨rfl, rfl, rfl, by decide +kernel, rfl, by decide +kernel, by decide +kernel⟩
theorem d__law_way {X : Cx} (am : Amb 7 X) (hN : X.N.Nodup) (hc : X.calm = true) (hxe : PassesOwn (model X.prog X.w) X.A X.env X.xe) (eN : X.N = (["_law_train", "_law_many", "_law_planes", "_law_turn", "_law_plane_here"] : List Str)) (eS : X.env.scope = defScope s__law_way) (hfn : ∀ x, X.fn x = true) (fr_range : X.mg "range" = none) (fr_len : X.mg "len" = none) (G__law_edges : FnG X.prog X.w X.K X.mg X.base "_law_edges" 7 PG.sp__law_edges_2 []) : JSs X (defBody s__law_way) PG.w__law_way := by
  have hr := am.rm
  have n0 : X.N[0]? = some ("_law_train" : Str) := by rw [eN]; rfl
  have v0 : SlotOk X 0 "_law_train" := slot_of eS eN hfn rfl (.inl rfl)
  have n1 : X.N[1]? = some ("_law_many" : Str) := by rw [eN]; rfl
  have v1 : SlotOk X 1 "_law_many" := slot_of eS eN hfn rfl (.inl rfl)
  have n2 : X.N[2]? = some ("_law_planes" : Str) := by rw [eN]; rfl
  have v2 : SlotOk X 2 "_law_planes" := slot_of eS eN hfn rfl (.inl rfl)
  have n3 : X.N[3]? = some ("_law_turn" : Str) := by rw [eN]; rfl
  have v3 : SlotOk X 3 "_law_turn" := slot_of eS eN hfn rfl (.inl rfl)
  have n4 : X.N[4]? = some ("_law_plane_here" : Str) := by rw [eN]; rfl
  have v4 : SlotOk X 4 "_law_plane_here" := slot_of eS eN hfn rfl (.inl rfl)
  have gl_range : Gl X "range" := gl_of eS rfl
  have gl__law_edges : Gl X "_law_edges" := gl_of eS rfl
  have gl_len : Gl X "len" := gl_of eS rfl
  exact (js_cons (js_st hN v2 (je_lstO ja_nil))
  (js_cons (js_for hxe hc (ji_range1 gl_range fr_range (ja_cons (je_v v1) ja_nil)) (jg_of (pg_v hN v3))
  (js_one (js_for hxe hc (ji_any (je_cg G__law_edges hr gl__law_edges (ja_cons (je_op o_repD (je_v v0) (je_op o_addA (je_v v3) je_int)) ja_nil))) (jg_of (pg_v hN v4))
  (js_one (js_if (jt_cmp o_ge (je_ix (je_ix (je_v v4) je_int) je_int) (je_op o_mul (je_bi b_len gl_len fr_len RT.boot_len (ja_cons (je_v v0) ja_nil)) (je_v v3)) (nomark _))
  (js_one (js_do (je_meth PySem.F.slot_list_append PySem.F.type_list_append m_append (je_v v2) (ja_cons (je_ix (je_v v4) je_int) ja_nil))))
  js_nil)))))
  (js_one (js_ret (je_v v2)))))
theorem g__law_way (KX : K.In base) (GX : base.Ns mainGlobals mg) (c : He.SaysD fa fn K) (hxb : xb K = true) (hns : BaseOk K mg base) (htr : P.given.tree = none) : FnG P w K mg base "_law_way" 8 PG.sp__law_way [] := by
  obtain ⟨fd, F⟩ := c.def_ 63 (d := dd__law_way) rfl
  unfold PG.sp__law_way
  exact mkG (N := (["_law_train", "_law_many", "_law_planes", "_law_turn", "_law_plane_here"] : List Str)) false hns htr F (He.glo_ok KX GX (c.fact 63 (f := .glo "_law_way") rfl)) sc__law_way rfl rfl (fun _ _ _ _ _ _ us hl => match us, hl with | [_, _], _ => rfl) (fun X cdv A outer s H E hX hcd am => by subst hX; exact d__law_way am sc__law_way.nd rfl PassesOwn.never rfl rfl (fun _ => rfl) (He.free_ok KX GX (c.fact 70 (f := .free "range") rfl)) (He.free_ok KX GX (c.fact 69 (f := .free "len") rfl)) (g__law_edges (P := P) (w := w) KX GX c hxb hns htr))

theorem sc_law : FnScope (["_law_script", "_law_box_here", "_law_train", "_law_many", "_law_due", "_law_number", "_law_planes", "_law_more", "_law_most", "_law_first", "_law_plane_here"] : List Str) (["_law_script"] : List Str) (defScope s_law) := ⟨rfl, rfl, rfl, by decide +kernel, rfl, by decide +kernel, by decide +kernel⟩
theorem d_law {X : Cx} (am : Amb 11 X) (hN : X.N.Nodup) (hc : X.calm = true) (hxe : PassesOwn (model X.prog X.w) X.A X.env X.xe) (eN : X.N = (["_law_script", "_law_box_here", "_law_train", "_law_many", "_law_due", "_law_number", "_law_planes", "_law_more", "_law_most", "_law_first", "_law_plane_here"] : List Str)) (eS : X.env.scope = defScope s_law) (hfn : ∀ x, X.fn x = true) (fr_range : X.mg "range" = none) (G__law_box : FnG X.prog X.w X.K X.mg X.base "_law_box" 2 PG.sp__law_box []) (G__law_cavity : FnG X.prog X.w X.K X.mg X.base "_law_cavity" 4 PG.sp__law_cavity []) (G__law_draw : FnG X.prog X.w X.K X.mg X.base "_law_draw" 1 PG.sp__law_draw_2 []) (G__law_way : FnG X.prog X.w X.K X.mg X.base "_law_way" 8 PG.sp__law_way []) (G_pass_planes : FnG X.prog X.w X.K X.mg X.base "pass_planes" 8 PG.sp_pass_planes []) (G__law_same : FnG X.prog X.w X.K X.mg X.base "_law_same" 1 PG.sp__law_same []) (G__law_implied : FnG X.prog X.w X.K X.mg X.base "_law_implied" 6 PG.sp__law_implied []) (G_settled : FnG X.prog X.w X.K X.mg X.base "settled" 11 PG.sp_settled []) (G_is_kept : FnG X.prog X.w X.K X.mg X.base "is_kept" 11 PG.sp_is_kept []) : JSs X (defBody s_law) PG.w_law_40 := by
  have hr := am.rm
  have n0 : X.N[0]? = some ("_law_script" : Str) := by rw [eN]; rfl
  have v0 : SlotOk X 0 "_law_script" := slot_of eS eN hfn rfl (.inl rfl)
  have n1 : X.N[1]? = some ("_law_box_here" : Str) := by rw [eN]; rfl
  have v1 : SlotOk X 1 "_law_box_here" := slot_of eS eN hfn rfl (.inl rfl)
  have n2 : X.N[2]? = some ("_law_train" : Str) := by rw [eN]; rfl
  have v2 : SlotOk X 2 "_law_train" := slot_of eS eN hfn rfl (.inl rfl)
  have n3 : X.N[3]? = some ("_law_many" : Str) := by rw [eN]; rfl
  have v3 : SlotOk X 3 "_law_many" := slot_of eS eN hfn rfl (.inl rfl)
  have n4 : X.N[4]? = some ("_law_due" : Str) := by rw [eN]; rfl
  have v4 : SlotOk X 4 "_law_due" := slot_of eS eN hfn rfl (.inl rfl)
  have n5 : X.N[5]? = some ("_law_number" : Str) := by rw [eN]; rfl
  have v5 : SlotOk X 5 "_law_number" := slot_of eS eN hfn rfl (.inl rfl)
  have n6 : X.N[6]? = some ("_law_planes" : Str) := by rw [eN]; rfl
  have v6 : SlotOk X 6 "_law_planes" := slot_of eS eN hfn rfl (.inr rfl)
  have n7 : X.N[7]? = some ("_law_more" : Str) := by rw [eN]; rfl
  have v7 : SlotOk X 7 "_law_more" := slot_of eS eN hfn rfl (.inl rfl)
  have n8 : X.N[8]? = some ("_law_most" : Str) := by rw [eN]; rfl
  have v8 : SlotOk X 8 "_law_most" := slot_of eS eN hfn rfl (.inl rfl)
  have n9 : X.N[9]? = some ("_law_first" : Str) := by rw [eN]; rfl
  have v9 : SlotOk X 9 "_law_first" := slot_of eS eN hfn rfl (.inr rfl)
  have n10 : X.N[10]? = some ("_law_plane_here" : Str) := by rw [eN]; rfl
  have gl__law_box : Gl X "_law_box" := gl_of eS rfl
  have gl__law_cavity : Gl X "_law_cavity" := gl_of eS rfl
  have gl__law_draw : Gl X "_law_draw" := gl_of eS rfl
  have gl__law_way : Gl X "_law_way" := gl_of eS rfl
  have gl_pass_planes : Gl X "pass_planes" := gl_of eS rfl
  have gl__law_same : Gl X "_law_same" := gl_of eS rfl
  have gl_range : Gl X "range" := gl_of eS rfl
  have gl_settled : Gl X "settled" := gl_of eS rfl
  have gl_is_kept : Gl X "is_kept" := gl_of eS rfl
  exact (js_cons (js_st hN v1 (je_cg G__law_box hr gl__law_box (ja_cons (je_v v0) (ja_cons je_int (ja_cons je_int ja_nil)))))
  (js_cons (js_st hN v2 (je_cg G__law_cavity hr gl__law_cavity (ja_cons (je_v v1) ja_nil)))
  (js_cons (js_st hN v3 (je_cg G__law_draw hr gl__law_draw (ja_cons (je_v v1) (ja_cons je_int ja_nil))))
  (js_cons (js_if (jt_not (jt_tru (je_cg G__law_same hr gl__law_same (ja_cons (je_cg G_pass_planes hr gl_pass_planes (ja_cons (je_v v2) (ja_cons (je_v v3) ja_nil))) (ja_cons (je_cg G__law_way hr gl__law_way (ja_cons (je_v v2) (ja_cons (je_v v3) ja_nil))) ja_nil)))))
  (js_one (js_ret je_bl))
  js_nil)
  (js_cons (js_st hN v4 je_non)
  (js_cons (js_for hxe hc (ji_range1 gl_range fr_range (ja_cons je_int ja_nil)) (jg_of (pg_v hN v5))
  (js_cons (js_st hN v6 (je_cg G__law_way hr gl__law_way (ja_cons (je_v v2) (ja_cons (je_v v5) ja_nil))))
  (js_cons (js_st hN v7 (je_cg G__law_way hr gl__law_way (ja_cons (je_v v2) (ja_cons (je_op o_addA (je_v v5) je_int) ja_nil))))
  (js_one (js_if (jw_pt (jw_and (jt_isN (je_v v4)) (jw_and1 (jt_cmp (o_eq hr) (je_lc false (own' := [("_law_plane_here", 10)]) (by decide) hc hN (ji_any (je_v v7)) (blk_of eN eS (own := [("_law_plane_here", 10)]) (by decide +kernel)) (fun s H C cl fp => (jg_of (pg_name (i := 10) hN n10 (by first | exact .inl rfl | exact .inr rfl)))) (fun s H C cl fp => (jts_one (jt_not (jt_tru (je_cg G__law_implied hr (by rfl) (ja_cons (je_var 6 n6 (hv := vis_free (by decide +kernel))) (ja_cons (je_var 10 n10 (hv := (by first | exact Or.inl rfl | exact Or.inr (Or.inl rfl) | exact vis_free (by decide +kernel)))) ja_nil))))))) (fun s H C cl fp => je_int)) (je_lst ja_nil) (nomark _)))))
  (js_one (js_st hN v4 (je_v v5)))
  js_nil)))))
  (js_cons (js_st hN v8 (je_cg G__law_draw hr gl__law_draw (ja_cons (je_v v1) (ja_cons je_int ja_nil))))
  (js_cons (js_if (jw_pt (jw_and (jt_notN (je_v v4)) (jw_and1 (jt_cmp o_gt (je_v v4) (je_v v8) (nomark _)))))
  (js_one (js_st hN v4 je_non))
  js_nil)
  (js_cons (js_if (jt_not (jt_tru (je_cg G__law_same hr gl__law_same (ja_cons (je_cg G_settled hr gl_settled (ja_cons (je_v v2) (ja_cons (je_v v8) ja_nil))) (ja_cons (je_v v4) ja_nil)))))
  (js_one (js_ret je_bl))
  js_nil)
  (js_cons (js_st hN v9 (je_cg G__law_way hr gl__law_way (ja_cons (je_v v2) (ja_cons je_int ja_nil))))
  (js_one (js_ret (je_cg G__law_same hr gl__law_same (ja_cons (je_cg G_is_kept hr gl_is_kept (ja_cons (je_v v2) ja_nil)) (ja_cons (je_cmp (o_eq hr) (je_lc false (own' := [("_law_plane_here", 10)]) (by decide) hc hN (ji_any (je_cg G__law_way hr gl__law_way (ja_cons (je_v v2) (ja_cons je_int ja_nil)))) (blk_of eN eS (own := [("_law_plane_here", 10)]) (by decide +kernel)) (fun s H C cl fp => (jg_of (pg_name (i := 10) hN n10 (by first | exact .inl rfl | exact .inr rfl)))) (fun s H C cl fp => (jts_one (jt_not (jt_tru (je_cg G__law_implied hr (by rfl) (ja_cons (je_var 9 n9 (hv := vis_free (by decide +kernel))) (ja_cons (je_var 10 n10 (hv := (by first | exact Or.inl rfl | exact Or.inr (Or.inl rfl) | exact vis_free (by decide +kernel)))) ja_nil))))))) (fun s H C cl fp => je_int)) (je_lst ja_nil) (nomark _)) ja_nil)))))))))))))))
theorem f_law (KX : K.In base) (GX : base.Ns mainGlobals mg) (c : He.SaysD fa fn K) (hxb : xb K = true) (hns : BaseOk K mg base) (htr : P.given.tree = none) {fd : FuncData} (F : FunD K dd_law.name dd_law.qual dd_law.params dd_law.body dd_law.scope (dd_law.dvs K) (dd_law.kws K) (He.fAd K dd_law.at_) fd) : Fnn P w K mg base CX0 12 (He.fAd K dd_law.at_) fd (["_law_script"] : List Str) (liftSp K PG.sp_law_40) := by
  unfold PG.sp_law_40
  exact mkF (N := (["_law_script", "_law_box_here", "_law_train", "_law_many", "_law_due", "_law_number", "_law_planes", "_law_more", "_law_most", "_law_first", "_law_plane_here"] : List Str)) false hns htr F sc_law rfl rfl (fun X cdv A outer s H E hX hcd am => by subst hX; exact d_law am sc_law.nd rfl PassesOwn.never rfl rfl (fun _ => rfl) (He.free_ok KX GX (c.fact 70 (f := .free "range") rfl)) (g__law_box (P := P) (w := w) KX GX c hxb hns htr) (g__law_cavity (P := P) (w := w) KX GX c hxb hns htr) (g__law_draw (P := P) (w := w) KX GX c hxb hns htr) (g__law_way (P := P) (w := w) KX GX c hxb hns htr) (g_pass_planes (P := P) (w := w) KX GX c hxb hns htr) (g__law_same (P := P) (w := w) KX GX c hxb hns htr) (g__law_implied (P := P) (w := w) KX GX c hxb hns htr) (g_settled (P := P) (w := w) KX GX c hxb hns htr) (g_is_kept (P := P) (w := w) KX GX c hxb hns htr))

end

abbrev R : PySem.W.OpenRow := PySem.W.OpenLaw.row PySem.Challenge.rw_raytrain_k54_settled_trains
abbrev hk : PySem.W.Hook := hookR 2 fa fn xb
def ob (s : PySem.W.SharedT) : AlR := obsR 2 fa fn xb (HandSHeadRun.getT s)
theorem ob_eq (s : PySem.W.SharedT) : ob s = hk.obs s.abs := obsR_eq (HandSHeadRun.getT_eq s)
def loose : List Str := (["__name__", "ZERO", "ONE", "common_divisor", "fraction", "add", "negative", "subtract", "multiply", "divide", "sign", "compare", "is_less", "least_of", "IDENTITY", "element_map", "weighted", "compose_maps", "invert_map", "ray_transfer", "RaytrainError", "NoDirection", "make_half_plane", "edges_of", "half_planes_of", "determinant", "product", "opposite_weights", "triple_weights", "opposing_sets"] : List Str) ++ (["number_of", "is_empty", "single_bound", "pair_weights", "pair_bound", "supremum", "map_half_planes", "is_implied", "planes_of", "power_of", "pass_planes", "holds_next", "settled", "is_kept", "_law_cell", "_law_row", "_law_box", "_law_draw", "_law_same", "_law_frac", "_law_add", "_law_neg", "_law_sub", "_law_mul", "_law_div", "_law_less", "_law_least", "_law_greatest", "_law_fraction", "_law_stop"] : List Str) ++ (["_law_go", "_law_out", "_law_map", "_law_plane", "_law_edges", "_law_line", "_law_bounds", "_law_implied", "_law_cavity", "_law_way"] : List Str)
theorem run (w : World) : HandSHeadRun.RunEq R (PySem.W.view R.prog [77]) hk ob 3000 loose w := by
  intro os
  kernel_rfl
theorem facts {w : World} {K : PySem.W.Frag} {h : Heap} {mg : Str → Option Value} {f : Addr} (X : K.In h) (G : h.Ns mainGlobals mg) (hfa : mg ("law" : Str) = some (.ref f)) (c : He.SaysD fa fn K) (hxb : xb K = true) :
    ∃ fd : FuncData, (∀ (s : Shared) (v : Value), BindsTo s fd ⟨[v], []⟩ [("_law_script", v)]) ∧ ∀ base : Heap, K.In base → base.Ns mainGlobals mg → BaseOk K mg base → Fnn PySem.Challenge.rw_raytrain_k54_settled_trains.prog w K mg base CX0 12 f fd ["_law_script"] (liftSp K PG.sp_law_40) := by
  obtain ⟨fd, F⟩ := c.def_ 64 (d := dd_law) rfl
  have e := hfa.symm.trans (He.glo_ok X G (c.fact 64 (f := .glo "law") rfl))
  cases e
  have b := FunD.bindsA (ps := ["_law_script"]) F fun _ _ _ _ _ _ us hl => match us, hl with | [_], _ => rfl
  exact ⟨fd, fun s v => b s [v] rfl, fun base KX GX hns => f_law KX GX c hxb hns rfl F⟩

end K54

open PySem PySem.W PySem.Calls PyProof.Rows
set_option maxHeartbeats 0 in
theorem K54.holds_of (law : RT.LawD 63 PG.sp_law_40) : PySem.Challenge.rw_raytrain_k54_settled_trains.Holds := by
  w_on; o_law
  refine HandSHeadRun.head_any (r := OpenLaw.row PySem.Challenge.rw_raytrain_k54_settled_trains) (q := view (OpenLaw.row PySem.Challenge.rw_raytrain_k54_settled_trains).prog [77]) (H := K54.hk) (ob := K54.ob) (M := 3000) (loose := K54.loose) (d := HandSHeadRun.topDef (OpenLaw.row PySem.Challenge.rw_raytrain_k54_settled_trains).prog 77) (kwd := []) K54.ob_eq
    (by kernel_rfl) (fun s => by kernel_rfl) K54.run (by kernel_rfl) (by kernel_rfl) (by kernel_rfl) (by rfl) (by first | assumption | decide +kernel) (by decide +kernel) ⟨rfl, rfl, rfl, rfl, rfl, by decide +kernel⟩ ?hw ?hc
  case hw => w_witness2
  case hc =>
    refine RT.walk_R (l := PySem.Challenge.rw_raytrain_k54_settled_trains) (n := 63) (k := 12) (x := "_law_script") (sp := PG.sp_law_40) rfl (by decide) (by kernel_rfl) ⟨⟨rfl, by decide, by decide⟩, rfl, by decide⟩ (by kernel_rfl) law ?F
    intro w mg fa h Y G hmg0
    obtain ⟨K, KX, nl, tk, xbK, c⟩ := Y
    have hmg : mg ("law" : PySem.Str) = some (.ref fa) := by
      have e : (HandSHeadRun.topDef (OpenLaw.row PySem.Challenge.rw_raytrain_k54_settled_trains).prog 77).name = ("law" : PySem.Str) := by kernel_rfl
      rw [← e]
      exact hmg0
    obtain ⟨fd, hb, hF⟩ := K54.facts (w := w) KX G hmg c xbK
    exact ⟨K, fd, KX, nl, tk, hb, hF⟩

theorem PySem.Challenge.cw_raytrain_k54_settled_trains_holds : PySem.Challenge.rw_raytrain_k54_settled_trains.Holds :=
  K54.holds_of PG.law_k54

