import PyProof.Rows.All
import Wide.All
import OpenK.AllK
import Wide.FinOn
import HandS.AnyAll
import HandS.GenOver
import PyProof.GenCompD
import HandS.Zip
import KE.GoesZip
import KE.GoesMore
import KE.GoesEnum
import HandS.ForMost
import HandS.ForExc
import HandS.Wide
import HandS.HeadHook1
import HandS.IsInst
import HandS.Deep
import HandS.TupAny
import HandS.TupLe
import HandS.More
import HandS.EndBits
import HandS.Defaults
import HandS.Head0
import HandS.Head1
import HandS.Head2
import HandS.HeadEnd
import HandS.HeadHook2
import HandS.HeadHook4
import KE.KNestM
import PyProof.ReprRoads
import HandS.Style
import KE.DataFind
import HandS.TryOnly
import HandS.Rev
import HandS.Conv
import PyProof.ListRange
import HandS.ExcIs
import HandS.ExcOwn
import HandS.WordsExc
import HandS.List
import HandS.Dict
import PySem.Challenge.RW_raytrain_k52_bounds_for_ever
set_option Elab.async false
set_option linter.all false

set_option maxRecDepth 100000
set_option maxHeartbeats 4000000

namespace RG
open PySem PySem.Spec PyProof.Rows L2 GxR
section
variable {X : Cx} {pins : List (Addr × Obj)} {σ : L2.St} {H : Hp} {s : Shared}
theorem gens_irrel {s' : Shared} (I : Inv X pins σ H s) (hh : s'.heap = s.heap) (ho : s'.os = s.os) (hb : AllBare s'.gens) : Inv X pins σ H s' := by
  obtain ⟨h', g', d', t', o'⟩ := s'
  obtain ⟨h, g, d, t, o⟩ := s
  cases hh
  cases ho
  exact ⟨I.ok, I.os, hb, I.base, I.loc, I.cell, I.free, I.freeC, I.pin, I.hok, I.len⟩
theorem bare_set {s : Shared} {g : Nat} {x : GenState} (h : AllBare s.gens) (hx : x.bare = true) : AllBare (s.setGen g x).gens := fun y hy => by
  have hy' : y ∈ s.gens.setIfInBounds g x := hy
  rcases Array.mem_or_eq_of_mem_setIfInBounds hy' with z | z
  · exact h y z
  · rw [z]
    exact hx
def GR (X' : Cx) (pn : List (Addr × Obj)) (Qe : Hp → Prop) : GenEnd := fun _ _ r s₁ => r = .ok .next ∧ ∃ H4 σ4, Inv X' pn σ4 H4 s₁ ∧ Qe H4
def GY (X' : Cx) (pn : List (Addr × Obj)) (isAll : Bool) (Qx : Hp → Prop) : Protocol := fun _ _ v s kap => ∃ H4 σ4 b, v = .bool b ∧ Inv X' pn σ4 H4 s ∧
  if b = isAll then (∀ s'' : Shared, s''.heap = s.heap → s''.os = s.os → AllBare s''.gens → kap (.send .none) s'') else Qx H4
structure GSt (X' : Cx) (pn : List (Addr × Obj)) (isAll : Bool) (Qe Qx : Hp → Prop) (A0 : Around) (ag : Addr) (g n : Nat) (s : Shared) : Prop where
  isg : s.heap.IsGen ag g
  lim : s.heap.NoLimit
  bare : AllBare s.gens
  go : ∃ gs, s.gens[g]? = some gs ∧ gs.Goes (model X'.prog X'.w) A0 (GR X' pn Qe) (GY X' pn isAll Qx) n (.send .none) (s.setGen g .running)
theorem get_set {s : Shared} {g : Nat} {x : GenState} (h : g < s.gens.size) : (s.setGen g x).gens[g]? = some x := by
  show (s.gens.setIfInBounds g x)[g]? = some x
  rw [Array.getElem?_setIfInBounds, if_pos rfl, if_pos h]
theorem turn_gen {X' : Cx} {pn : List (Addr × Obj)} {isAll : Bool} {Qe Qx : Hp → Prop} {A : Around} {ag : Addr} {g n : Nat} {s : Shared} {E : Value → Shared → Prop} {Q : Option Value → Shared → Prop} (hh : A.handled = none) (hroom : A.depth < recursionLimit) (hpn : ∀ σ H s, Inv X' pn σ H s → s.heap.IsGen ag g)
    (S : GSt X' pn isAll Qe Qx A.in1 ag g n s) (h1 : ∀ s', (∃ H4 σ4, Inv X' pn σ4 H4 s' ∧ Qe H4) → Q none s')
    (h2 : ∀ s' b, (if b = isAll then (∃ m, m < n ∧ GSt X' pn isAll Qe Qx A.in1 ag g m s') else ∃ H4 σ4, Inv X' pn σ4 H4 s' ∧ Qx H4) → Q (some (.bool b)) s') : wpAny (model X'.prog X'.w) A (pyNext (.ref ag)) Q E s := by
  obtain ⟨gs, hgs, hgo⟩ := S.go
  have hlt : g < s.gens.size := (Array.getElem?_eq_some_iff.mp hgs).1
  refine GenW.wpAny_gsz (n := g + 1) hlt ?_
  refine wpAny_pyNext_genexpQ (P := fun _ _ s₁ => ∃ H4 σ4, Inv X' pn σ4 H4 s₁ ∧ Qe H4) hh S.lim hroom S.isg hgs hgo (fun v s₁ gs' hb hv hsz => ?_) (fun s₁ hp h' hk hsz => ?_)
  · obtain ⟨H4, σ4, b, rfl, I4, q4⟩ := hv
    have hsz' : g < s₁.gens.size := by
      have e : (s₁.setGen g gs').gens.size = s₁.gens.size := GenW.setGen_size ..
      omega
    refine h2 _ b ?_
    by_cases hb2 : b = isAll
    · rw [if_pos hb2] at q4 ⊢
      have bs : AllBare (s₁.setGen g gs').gens := bare_set I4.bare hb
      have q5 := q4 ((s₁.setGen g gs').setGen g .running) rfl rfl (bare_set bs rfl)
      cases n with
      | zero => exact q5.elim
      | succ m =>
        refine ⟨m, Nat.lt_succ_self m, ⟨hpn _ _ _ (gens_irrel I4 rfl rfl bs), I4.nolimit, bs, gs', get_set hsz', q5⟩⟩
    · rw [if_neg hb2] at q4 ⊢
      exact ⟨H4, σ4, gens_irrel I4 rfl rfl (bare_set I4.bare hb), q4⟩
  · obtain ⟨H4, σ4, I4, q4⟩ := hp
    exact h1 _ ⟨H4, σ4, gens_irrel (s := { s₁ with heap := h' }) (I4.kept (t' := s₁.toks) hk) rfl rfl (bare_set I4.bare rfl), q4⟩
end
end RG

set_option maxRecDepth 100000
set_option maxHeartbeats 4000000
namespace RG
open PySem PySem.Spec PyProof.Rows L2 GxR
section
variable {X : Cx} {pins : List (Addr × Obj)} {σ : L2.St} {H : Hp} {s : Shared}
structure GAo (A A' : Around) : Prop where
  hd : A'.handled = none
  dp : A'.depth ≤ A.depth + 1
  un : A'.units ≤ A.units + 8
  gd : A'.guards = A.guards
end
end RG

set_option maxRecDepth 100000
set_option maxHeartbeats 4000000

namespace RG
open PySem PySem.Spec PyProof.Rows L2
end RG

set_option maxRecDepth 100000
set_option maxHeartbeats 4000000

namespace RT
open PySem PySem.Spec PyProof.Rows L2

inductive Dt where
  | non | bl (b : Bool) | int (i : Int) | str (s : Str) | tup (ds : List Dt) | lst (ds : List Dt)

mutual
def Rep (K : PySem.W.Frag) (F : Hp) : Dt → V → Prop
  | .non, v => v = .non
  | .bl b, v => v = .bl b
  | .int i, v => v = .int i
  | .str s, v => v = .str s
  | .tup ds, v => ∃ a vs, v = .ref a ∧ SqT K F a vs ∧ Reps K F ds vs
  | .lst ds, v => ∃ a vs, v = .ref a ∧ Rd F a (.lst vs) ∧ Reps K F ds vs
def Reps (K : PySem.W.Frag) (F : Hp) : List Dt → List V → Prop
  | [], vs => vs = []
  | d :: ds, vs => ∃ v r, vs = v :: r ∧ Rep K F d v ∧ Reps K F ds r
end

theorem seqT_mono {K : PySem.W.Frag} {H H' : Hp} {a : Addr} {xs : List V} (e : Same H H') (h : SqT K H a xs) : SqT K H' a xs := by
  rcases h with (h | ⟨o, h⟩) | h
  · exact .inl (.inl (e _ _ h))
  · exact .inl (.inr ⟨o, e _ _ h⟩)
  · exact .inr h
theorem rd_mono {H H' : Hp} {a : Addr} {u : HO} (e : Same H H') (h : Rd H a u) : Rd H' a u := by
  rcases h with h | ⟨o, h⟩
  · exact .inl (e _ _ h)
  · exact .inr ⟨o, e _ _ h⟩
section
variable {K : PySem.W.Frag} {F F' : Hp}
mutual
theorem Rep.mono (e : Same F F') : ∀ {d : Dt} {v : V}, Rep K F d v → Rep K F' d v
  | .non, _, h => by simpa only [Rep] using h
  | .bl _, _, h => by simpa only [Rep] using h
  | .int _, _, h => by simpa only [Rep] using h
  | .str _, _, h => by simpa only [Rep] using h
  | .tup ds, v, h => by
    simp only [Rep] at h ⊢
    obtain ⟨a, vs, e1, s, r⟩ := h
    exact ⟨a, vs, e1, seqT_mono e s, Reps.mono e r⟩
  | .lst ds, v, h => by
    simp only [Rep] at h ⊢
    obtain ⟨a, vs, e1, s, r⟩ := h
    exact ⟨a, vs, e1, rd_mono e s, Reps.mono e r⟩
theorem Reps.mono (e : Same F F') : ∀ {ds : List Dt} {vs : List V}, Reps K F ds vs → Reps K F' ds vs
  | [], _, h => by simpa only [Reps] using h
  | d :: ds, vs, h => by
    simp only [Reps] at h ⊢
    obtain ⟨v, r, e1, h1, h2⟩ := h
    exact ⟨v, r, e1, Rep.mono e h1, Reps.mono e h2⟩
end
theorem Reps.nil : Reps K F [] [] := by simp only [Reps]
theorem Reps.cons {d : Dt} {v : V} {ds : List Dt} {vs : List V} (h : Rep K F d v) (t : Reps K F ds vs) : Reps K F (d :: ds) (v :: vs) := by
  simp only [Reps]
  exact ⟨v, vs, rfl, h, t⟩
theorem Reps.length : ∀ {ds : List Dt} {vs : List V}, Reps K F ds vs → ds.length = vs.length
  | [], vs, h => by
    simp only [Reps] at h
    rw [h]
    rfl
  | d :: ds, vs, h => by
    simp only [Reps] at h
    obtain ⟨v, r, rfl, _, h2⟩ := h
    rw [List.length_cons, List.length_cons, Reps.length h2]
theorem Reps.append : ∀ {ds es : List Dt} {vs us : List V}, Reps K F ds vs → Reps K F es us → Reps K F (ds ++ es) (vs ++ us)
  | [], es, vs, us, h, h' => by
    simp only [Reps] at h
    rw [h]
    exact h'
  | d :: ds, es, vs, us, h, h' => by
    simp only [Reps] at h
    obtain ⟨v, r, rfl, h1, h2⟩ := h
    exact .cons h1 (Reps.append h2 h')
theorem Reps.get : ∀ {ds : List Dt} {vs : List V} {i : Nat} {d : Dt}, Reps K F ds vs → ds[i]? = some d → ∃ v, vs[i]? = some v ∧ Rep K F d v
  | [], _, _, _, _, e => by simp at e
  | d :: ds, vs, 0, d', h, e => by
    simp only [Reps] at h
    obtain ⟨v, r, rfl, h1, h2⟩ := h
    cases e
    exact ⟨v, rfl, h1⟩
  | d :: ds, vs, i + 1, d', h, e => by
    simp only [Reps] at h
    obtain ⟨v, r, rfl, h1, h2⟩ := h
    exact Reps.get (i := i) h2 e
theorem Reps.take : ∀ {ds : List Dt} {vs : List V} (n : Nat), Reps K F ds vs → Reps K F (ds.take n) (vs.take n)
  | _, _, 0, _ => by
    rw [List.take_zero, List.take_zero]
    exact .nil
  | [], vs, n + 1, h => by
    simp only [Reps] at h
    rw [h]
    exact .nil
  | d :: ds, vs, n + 1, h => by
    simp only [Reps] at h
    obtain ⟨v, r, rfl, h1, h2⟩ := h
    exact .cons h1 (Reps.take n h2)
theorem Reps.drop : ∀ {ds : List Dt} {vs : List V} (n : Nat), Reps K F ds vs → Reps K F (ds.drop n) (vs.drop n)
  | _, _, 0, h => h
  | [], vs, n + 1, h => by
    simp only [Reps] at h
    rw [h]
    exact .nil
  | d :: ds, vs, n + 1, h => by
    simp only [Reps] at h
    obtain ⟨v, r, rfl, h1, h2⟩ := h
    exact Reps.drop n h2
theorem Reps.set {x : Dt} {u : V} (hx : Rep K F x u) : ∀ {ds : List Dt} {vs : List V} (n : Nat), Reps K F ds vs → Reps K F (ds.set n x) (vs.set n u)
  | [], vs, n, h => by
    simp only [Reps] at h
    rw [h]
    exact .nil
  | d :: ds, vs, 0, h => by
    simp only [Reps] at h
    obtain ⟨v, r, rfl, h1, h2⟩ := h
    exact .cons hx h2
  | d :: ds, vs, n + 1, h => by
    simp only [Reps] at h
    obtain ⟨v, r, rfl, h1, h2⟩ := h
    exact .cons h1 (Reps.set hx n h2)
end

inductive Vl where
  | d (x : Dt) | c (k : Nat)
inductive Cell where
  | lst (xs : List Dt) | dead
structure M where
  sl : List (Option Vl)
  st : List Cell
def RepV (K : PySem.W.Frag) (F : Hp) (A : List Addr) : Vl → V → Prop
  | .d x, v => Rep K F x v
  | .c k, v => ∃ a, A[k]? = some a ∧ v = .ref a
theorem RepV.mono {K : PySem.W.Frag} {F F' : Hp} {A A' : List Addr} (e : Same F F') (p : A <+: A') : ∀ {x : Vl} {v : V}, RepV K F A x v → RepV K F' A' x v
  | .d x, v, h => Rep.mono e h
  | .c k, v, h => by
    obtain ⟨a, h1, h2⟩ := h
    obtain ⟨t, rfl⟩ := p
    obtain ⟨hk, _⟩ := List.getElem?_eq_some_iff.mp h1
    exact ⟨a, by rw [List.getElem?_append_left hk]; exact h1, h2⟩

def gdefs : List (Str × Option Str) := [("triple_weights", none), ("is_certificate", none), ("contains_ray", none), ("is_empty", none), ("is_bounded", none), ("natural_of", none), ("fraction_of", none), ("parse_train", none)]
def tabK (K : PySem.W.Frag) (p : Str × Option Str) : Option (Addr × Addr) := match K.lookup (He.fAd K p) with
  | some ⟨_, _, .func fd, _⟩ => (match fd.code with
    | .ref c => (match K.lookup c with
      | some ⟨_, _, .fields vs, _⟩ => (match vs.getD 11 .none with
        | .ref P => some (c, P)
        | _ => none)
      | _ => none)
    | _ => none)
  | _ => none
def tabsK (K : PySem.W.Frag) : List (Addr × Addr) := gdefs.filterMap (tabK K)
theorem tab_upd {H : Hp} {P p : Addr} {o : HO} (t : GxR.TabG H P) (n : H p = none) : GxR.TabG (upd H p o) P := by
  obtain ⟨ps, h, ok⟩ := t
  exact ⟨ps, by rw [upd_ne (ne_of_none h n)]; exact h, ok⟩
theorem tab_ne {H : Hp} {P a : Addr} {vs : List V} (t : GxR.TabG H P) (n : H a = some (.lst vs)) : P ≠ a := fun z => by
  obtain ⟨ps, h, ok⟩ := t
  rw [z, n] at h
  cases h
theorem tab_lst {H : Hp} {P a : Addr} {vs : List V} {o : HO} (t : GxR.TabG H P) (n : H a = some (.lst vs)) : GxR.TabG (upd H a o) P := by
  have ne := tab_ne t n
  obtain ⟨ps, h, ok⟩ := t
  exact ⟨ps, by rw [upd_ne ne]; exact h, ok⟩
theorem tab_some {H : Hp} {P p : Addr} (t : GxR.TabG H P) (n : H p = none) : P ≠ p := fun z => by
  obtain ⟨ps, h, ok⟩ := t
  rw [z, n] at h
  cases h
structure Good (K : PySem.W.Frag) (W F : Hp) (A : List Addr) (m : M) (σ : L2.St) (H : Hp) : Prop where
  ext : Same F H
  hid : Same W H
  dj : ∀ a o, W a = some o → F a = none
  slen : m.sl.length = σ.length
  sl : ∀ (i : Nat) (v : Vl), m.sl[i]? = some (some v) → ∃ u : V, σ[i]? = some (some u) ∧ RepV K F A v u
  len : A.length = m.st.length
  st : ∀ (k : Nat) (xs : List Dt), m.st[k]? = some (Cell.lst xs) → ∃ (a : Addr) (vs : List V), A[k]? = some a ∧ H a = some (.lst vs) ∧ Reps K F xs vs ∧ F a = none ∧ W a = none
  nd : ∀ (j k : Nat) (xs ys : List Dt) (a : Addr), m.st[j]? = some (.lst xs) → m.st[k]? = some (.lst ys) → A[j]? = some a → A[k]? = some a → j = k
  tb : ∀ q ∈ tabsK K, GxR.TabG H q.2 ∧ F q.2 = none ∧ W q.2 = none

abbrev DE := M → (Vl → M → Prop) → Prop
abbrev DA := M → (List Vl → M → Prop) → Prop
abbrev DT := M → (Bool → M → Prop) → Prop
structure DEnds where
  nx : M → Prop
  rt : Vl → M → Prop
  bk : M → Prop
  ct : M → Prop
abbrev DS := DEnds → M → Prop

def After (K : PySem.W.Frag) (W F : Hp) (A : List Addr) (σ : L2.St) {α : Type} (Q : α → M → Prop) (R : Hp → List Addr → α → Hp → Prop) : Prop :=
  ∀ F' A' x m' H', Same F F' → A <+: A' → Good K W F' A' m' σ H' → Q x m' → R F' A' x H'
def lift (K : PySem.W.Frag) (t : DE) : TE := fun σ H Q => ∃ W F A m Qd, Good K W F A m σ H ∧ t m Qd ∧
  After K W F A σ Qd fun F' A' v H' => ∀ u, RepV K F' A' v u → Q u H'
def liftT (K : PySem.W.Frag) (t : DT) : TT := fun σ H Q => ∃ W F A m Qd, Good K W F A m σ H ∧ t m Qd ∧
  After K W F A σ Qd fun _ _ b H' => Q b H'
def RepVs (K : PySem.W.Frag) (F : Hp) (A : List Addr) : List Vl → List V → Prop
  | [], us => us = []
  | v :: vs, us => ∃ u r, us = u :: r ∧ RepV K F A v u ∧ RepVs K F A vs r
theorem RepVs.mono {K : PySem.W.Frag} {F F' : Hp} {A A' : List Addr} (e : Same F F') (p : A <+: A') : ∀ {x : List Vl} {v : List V}, RepVs K F A x v → RepVs K F' A' x v
  | [], _, h => h
  | _ :: _, _, h => by
    obtain ⟨u, r, e1, h1, h2⟩ := h
    exact ⟨u, r, e1, RepV.mono e p h1, RepVs.mono e p h2⟩
theorem RepVs.length {K : PySem.W.Frag} {F : Hp} {A : List Addr} : ∀ {x : List Vl} {v : List V}, RepVs K F A x v → x.length = v.length
  | [], _, h => by
    have e := h
    simp only [RepVs] at e
    rw [e]
    rfl
  | _ :: _, _, h => by
    obtain ⟨u, r, rfl, h1, h2⟩ := h
    rw [List.length_cons, List.length_cons, RepVs.length h2]
def liftA (K : PySem.W.Frag) (t : DA) : TA := fun σ H Q => ∃ W F A m Qd, Good K W F A m σ H ∧ t m Qd ∧
  After K W F A σ Qd fun F' A' vs H' => ∀ us, RepVs K F' A' vs us → Q us H'
structure Conts (K : PySem.W.Frag) (W F : Hp) (A : List Addr) (E : DEnds) (D : Ends) : Prop where
  nx : ∀ F' A' m' σ' H', Same F F' → A <+: A' → Good K W F' A' m' σ' H' → E.nx m' → D.nx σ' H'
  rt : ∀ F' A' m' σ' H' v u, Same F F' → A <+: A' → Good K W F' A' m' σ' H' → RepV K F' A' v u → E.rt v m' → D.rt u H'
  bk : ∀ F' A' m' σ' H', Same F F' → A <+: A' → Good K W F' A' m' σ' H' → E.bk m' → D.bk σ' H'
  ct : ∀ F' A' m' σ' H', Same F F' → A <+: A' → Good K W F' A' m' σ' H' → E.ct m' → D.ct σ' H'
theorem Conts.mono {K : PySem.W.Frag} {W F F' : Hp} {A A' : List Addr} {E : DEnds} {D : Ends} (c : Conts K W F A E D) (s : Same F F') (p : A <+: A') : Conts K W F' A' E D :=
  ⟨fun F2 A2 m σ H s2 p2 => c.nx F2 A2 m σ H (s.trans s2) (p.trans p2), fun F2 A2 m σ H v u s2 p2 => c.rt F2 A2 m σ H v u (s.trans s2) (p.trans p2),
    fun F2 A2 m σ H s2 p2 => c.bk F2 A2 m σ H (s.trans s2) (p.trans p2), fun F2 A2 m σ H s2 p2 => c.ct F2 A2 m σ H (s.trans s2) (p.trans p2)⟩
def liftS (K : PySem.W.Frag) (t : DS) : TS := fun D σ H => ∃ W F A m E, Good K W F A m σ H ∧ t E m ∧ Conts K W F A E D

theorem _root_.L2.PE.imp {X : Cx} {e : Expr} {t t' : TE} (h : PE X e t) (f : ∀ σ H Q, t' σ H Q → t σ H Q) : PE X e t' := ⟨fun pins s σ H Q I q => h.run pins s σ H Q I (f _ _ _ q)⟩
theorem _root_.L2.PT.imp {X : Cx} {e : Expr} {t t' : TT} (h : PT X e t) (f : ∀ σ H Q, t' σ H Q → t σ H Q) : PT X e t' := ⟨fun pins s σ H Q I q => h.run pins s σ H Q I (f _ _ _ q)⟩
theorem _root_.L2.PW.imp {X : Cx} {e : Expr} {t t' : TT} (h : PW X e t) (f : ∀ σ H Q, t' σ H Q → t σ H Q) : PW X e t' := ⟨fun w pins s σ H Q I q => h.run w pins s σ H Q I (f _ _ _ q)⟩
theorem _root_.L2.PA.imp {X : Cx} {e : List Expr} {t t' : TA} (h : PA X e t) (f : ∀ σ H Q, t' σ H Q → t σ H Q) : PA X e t' := ⟨fun p pins s σ H Q I q => h.run p pins s σ H Q I (f _ _ _ q)⟩
theorem _root_.L2.PS.imp {X : Cx} {e : Stmt} {t t' : TS} (h : PS X e t) (f : ∀ D σ H, t' D σ H → t D σ H) : PS X e t' := ⟨fun pins s σ H D I q => h.run pins s σ H D I (f _ _ _ q)⟩
theorem _root_.L2.PSs.imp {X : Cx} {e : List Stmt} {t t' : TS} (h : PSs X e t) (f : ∀ D σ H, t' D σ H → t D σ H) : PSs X e t' := ⟨fun pins s σ H D I q => h.run pins s σ H D I (f _ _ _ q)⟩

abbrev JE (X : Cx) (e : Expr) (t : DE) : Prop := PE X e (lift X.K t)
abbrev JT (X : Cx) (e : Expr) (t : DT) : Prop := PT X e (liftT X.K t)
abbrev JW (X : Cx) (e : Expr) (t : DT) : Prop := PW X e (liftT X.K t)
abbrev JA (X : Cx) (e : List Expr) (t : DA) : Prop := PA X e (liftA X.K t)
abbrev JS (X : Cx) (e : Stmt) (t : DS) : Prop := PS X e (liftS X.K t)
abbrev JSs (X : Cx) (e : List Stmt) (t : DS) : Prop := PSs X e (liftS X.K t)

section
variable {K : PySem.W.Frag} {W F F' : Hp} {A A' : List Addr} {m : M} {σ : L2.St} {H H' : Hp}
theorem pre_refl {α : Type} (l : List α) : l <+: l := ⟨[], List.append_nil l⟩
theorem pre_trans {α : Type} {a b c : List α} (h : a <+: b) (h' : b <+: c) : a <+: c := List.IsPrefix.trans h h'
theorem same_upd {p : Addr} {o : HO} (h : H p = none) : Same H (upd H p o) := fun b x e => by
  rw [upd_ne (ne_of_none e h)]
  exact e
theorem same_upd2 {p : Addr} {o : HO} (e : Same F H) : Same (upd F p o) (upd H p o) := fun b x q => by
  by_cases hb : b = p
  · subst hb
    rw [upd_same] at q ⊢
    exact q
  · rw [upd_ne hb] at q ⊢
    exact e _ _ q
theorem Good.laid {p : Addr} {o : HO} (G : Good K W F A m σ H) (n : H p = none) : Good K W (upd F p o) A m σ (upd H p o) := by
  have nF : F p = none := G.ext.free n
  have s : Same F (upd F p o) := same_upd nF
  refine ⟨same_upd2 G.ext, G.hid.trans (same_upd n), fun b x e => by rw [upd_ne (ne_of_none (G.hid _ _ e) n)]; exact G.dj b x e, G.slen, fun i v e => ?_, G.len, fun k xs e => ?_, G.nd, fun q hq => ?_⟩
  · obtain ⟨u, h1, h2⟩ := G.sl i v e
    exact ⟨u, h1, RepV.mono s (pre_refl _) h2⟩
  · obtain ⟨a, vs, h1, h2, h3, h4, h5⟩ := G.st k xs e
    have ne : a ≠ p := ne_of_none h2 n
    exact ⟨a, vs, h1, by rw [upd_ne ne]; exact h2, Reps.mono s h3, by rw [upd_ne ne]; exact h4, h5⟩
  · obtain ⟨t1, t2, t3⟩ := G.tb q hq
    exact ⟨tab_upd t1 n, by rw [upd_ne (tab_some t1 n)]; exact t2, t3⟩
theorem Good.own {p : Addr} {xs : List Dt} {vs : List V} (G : Good K W F A m σ H) (n : H p = none) (r : Reps K F xs vs) : Good K W F (A ++ [p]) ⟨m.sl, m.st ++ [.lst xs]⟩ σ (upd H p (.lst vs)) := by
  have pr : A <+: A ++ [p] := ⟨[p], rfl⟩
  have at_ : ∀ k, k < m.st.length → (A ++ [p])[k]? = A[k]? := fun k hk => List.getElem?_append_left (by rw [G.len]; exact hk)
  have lst_ : (A ++ [p])[m.st.length]? = some p := by rw [← G.len]; simp
  have old : ∀ k, k < m.st.length → (m.st ++ [Cell.lst xs])[k]? = m.st[k]? := fun k hk => List.getElem?_append_left hk
  have new : ∀ k c, ¬ k < m.st.length → (m.st ++ [Cell.lst xs])[k]? = some c → k = m.st.length ∧ c = .lst xs := fun k c hk e => by
    have hk2 := (List.getElem?_eq_some_iff.mp e).1
    rw [List.length_append, List.length_singleton] at hk2
    have ek : k = m.st.length := by omega
    subst ek
    rw [List.getElem?_append_right (Nat.le_refl _), Nat.sub_self] at e
    exact ⟨rfl, (Option.some.inj e).symm⟩
  refine ⟨G.ext.trans (same_upd n), G.hid.trans (same_upd n), G.dj, G.slen, fun i v e => ?_, by simp [G.len], fun k ys e => ?_, fun j k ys zs a e1 e2 h1 h2 => ?_, fun q hq => ⟨tab_upd (G.tb q hq).1 n, (G.tb q hq).2⟩⟩
  · obtain ⟨u, h1, h2⟩ := G.sl i v e
    exact ⟨u, h1, RepV.mono (Same.refl _) pr h2⟩
  · by_cases hk : k < m.st.length
    · have e' : m.st[k]? = some (.lst ys) := (old k hk).symm.trans e
      obtain ⟨a, ws, h1, h2, h3, h4⟩ := G.st k ys e'
      exact ⟨a, ws, (at_ k hk).trans h1, by rw [upd_ne (ne_of_none h2 n)]; exact h2, h3, h4⟩
    · obtain ⟨ek, ec⟩ := new k _ hk e
      subst ek
      cases ec
      exact ⟨p, vs, lst_, upd_same, r, G.ext.free n, G.hid.free n⟩
  · have nA : ∀ k zs, k < m.st.length → (m.st ++ [Cell.lst xs])[k]? = some (.lst zs) → (A ++ [p])[k]? = some p → False := fun k zs hk e h => by
      obtain ⟨a', _, q1, q2, _⟩ := G.st k zs ((old k hk).symm.trans e)
      rw [at_ k hk, q1] at h
      cases h
      rw [n] at q2
      cases q2
    by_cases hj : j < m.st.length
    · by_cases hk : k < m.st.length
      · exact G.nd j k ys zs a ((old j hj).symm.trans e1) ((old k hk).symm.trans e2) ((at_ j hj).symm.trans h1) ((at_ k hk).symm.trans h2)
      · obtain ⟨ek, _⟩ := new k _ hk e2
        subst ek
        rw [lst_] at h2
        cases h2
        exact (nA j ys hj e1 h1).elim
    · obtain ⟨ej, _⟩ := new j _ hj e1
      subst ej
      by_cases hk : k < m.st.length
      · rw [lst_] at h1
        cases h1
        exact (nA k zs hk e2 h2).elim
      · obtain ⟨ek, _⟩ := new k _ hk e2
        exact ek.symm
theorem Good.store {i : Nat} {v : Vl} {u : V} (G : Good K W F A m σ H) (r : RepV K F A v u) : Good K W F A ⟨m.sl.set i (some v), m.st⟩ (σ.set i (some u)) H := by
  refine ⟨G.ext, G.hid, G.dj, by rw [List.length_set, List.length_set, G.slen], fun j w e => ?_, G.len, G.st, G.nd, G.tb⟩
  have e' : (m.sl.set i (some v))[j]? = some (some w) := e
  rw [List.getElem?_set] at e' ⊢
  by_cases hj : i = j
  · rw [if_pos hj] at e' ⊢
    by_cases hl : i < m.sl.length
    · rw [if_pos hl] at e'
      rw [if_pos (by rw [← G.slen]; exact hl)]
      cases e'
      exact ⟨u, rfl, r⟩
    · rw [if_neg hl] at e'
      cases e'
  · rw [if_neg hj] at e' ⊢
    exact G.sl j w e'
theorem Good.write {k : Nat} {xs ys : List Dt} {a : Addr} {ws : List V} (G : Good K W F A m σ H) (e : m.st[k]? = some (.lst xs)) (ha : A[k]? = some a) (r : Reps K F ys ws) :
    Good K W F A ⟨m.sl, m.st.set k (.lst ys)⟩ σ (upd H a (.lst ws)) := by
  obtain ⟨a', vs, h1, h2, h3, h4, h5⟩ := G.st k xs e
  rw [ha] at h1
  cases h1
  have hk : k < m.st.length := (List.getElem?_eq_some_iff.mp e).1
  have sp : ∀ j c, (m.st.set k (Cell.lst ys))[j]? = some c → (j = k ∧ c = .lst ys) ∨ (j ≠ k ∧ m.st[j]? = some c) := fun j c q => by
    rw [List.getElem?_set] at q
    by_cases hj : k = j
    · rw [if_pos hj, if_pos hk] at q
      exact .inl ⟨hj.symm, (Option.some.inj q).symm⟩
    · rw [if_neg hj] at q
      exact .inr ⟨fun z => hj z.symm, q⟩
  refine ⟨fun b x q => ?_, fun b x q => ?_, G.dj, G.slen, G.sl, by rw [List.length_set]; exact G.len, fun j zs q => ?_, fun i j zs ts b q1 q2 p1 p2 => ?_, fun q hq => ⟨tab_lst (G.tb q hq).1 h2, (G.tb q hq).2⟩⟩
  · have nb : b ≠ a := fun z => by
      rw [z, h4] at q
      cases q
    rw [upd_ne nb]
    exact G.ext _ _ q
  · have nb : b ≠ a := fun z => by
      rw [z, h5] at q
      cases q
    rw [upd_ne nb]
    exact G.hid _ _ q
  · rcases sp j _ q with ⟨rfl, ec⟩ | ⟨hj, q'⟩
    · cases ec
      exact ⟨a, ws, ha, upd_same, r, h4, h5⟩
    · obtain ⟨b, us, p1, p2, p3, p4⟩ := G.st j zs q'
      have nb : b ≠ a := fun z => hj (G.nd j k zs xs a q' e (by rw [← z]; exact p1) ha)
      exact ⟨b, us, p1, by rw [upd_ne nb]; exact p2, p3, p4⟩
  · have i' : ∃ zs', m.st[i]? = some (.lst zs') := by
      rcases sp i _ q1 with ⟨rfl, _⟩ | ⟨_, q'⟩
      · exact ⟨_, e⟩
      · exact ⟨_, q'⟩
    have j' : ∃ zs', m.st[j]? = some (.lst zs') := by
      rcases sp j _ q2 with ⟨rfl, _⟩ | ⟨_, q'⟩
      · exact ⟨_, e⟩
      · exact ⟨_, q'⟩
    obtain ⟨z1, i'⟩ := i'
    obtain ⟨z2, j'⟩ := j'
    exact G.nd i j z1 z2 b i' j' p1 p2
def frz (k : Nat) (xs : List Dt) (m : M) : M := ⟨m.sl.map fun o => match o with
  | some (.c j) => if j = k then some (.d (.lst xs)) else some (.c j)
  | o => o, m.st.set k .dead⟩
def view (m : M) : Vl → Option Dt
  | .d x => some x
  | .c k => match m.st[k]? with
    | some (.lst xs) => some (.lst xs)
    | _ => none
def RepB (K : PySem.W.Frag) (F H : Hp) : Dt → V → Prop
  | .lst ds, u => ∃ a vs, u = .ref a ∧ Rd H a (.lst vs) ∧ Reps K F ds vs
  | x, u => Rep K F x u
theorem Good.view {v : Vl} {u : V} {x : Dt} (G : Good K W F A m σ H) (r : RepV K F A v u) (e : view m v = some x) : RepB K F H x u := by
  cases v with
  | d y =>
    cases e
    cases x with
    | lst ds =>
      have r' : Rep K F (.lst ds) u := r
      simp only [Rep] at r'
      obtain ⟨a, vs, e1, s, q⟩ := r'
      exact ⟨a, vs, e1, rd_mono G.ext s, q⟩
    | _ => exact r
  | c k =>
    obtain ⟨a, h1, rfl⟩ := r
    unfold RT.view at e
    cases q : m.st[k]? with
    | none =>
      simp only [q] at e
      cases e
    | some c =>
      cases c with
      | dead =>
        simp only [q] at e
        cases e
      | lst xs =>
        simp only [q] at e
        cases e
        obtain ⟨a', vs, h1', h2, h3, _⟩ := G.st k xs q
        rw [h1] at h1'
        cases h1'
        exact ⟨a, vs, rfl, Rd.of h2, h3⟩
end
end RT

set_option maxRecDepth 100000
set_option maxHeartbeats 4000000
namespace RT
open PySem PySem.Spec PyProof.Rows L2

def onV (m : M) (v : Vl) (k : Dt → Prop) : Prop := match view m v with
  | some x => k x
  | none => False
theorem onV_elim {m : M} {v : Vl} {k : Dt → Prop} (h : onV m v k) : ∃ x, view m v = some x ∧ k x := by
  unfold onV at h
  split at h
  · exact ⟨_, by assumption, h⟩
  · exact h.elim
def onD (v : Vl) (k : Dt → Prop) : Prop := match v with
  | .d x => k x
  | .c _ => False
theorem onD_elim {v : Vl} {k : Dt → Prop} (h : onD v k) : ∃ x, v = .d x ∧ k x := by
  cases v with
  | d x => exact ⟨x, rfl, h⟩
  | c k => exact h.elim

def onC (st : List Cell) (k : Nat) (P : List Dt → Prop) : Prop := match st[k]? with
  | some (.lst xs) => P xs
  | _ => False
theorem onC_elim {st : List Cell} {k : Nat} {P : List Dt → Prop} (h : onC st k P) : ∃ xs, st[k]? = some (.lst xs) ∧ P xs := by
  unfold onC at h
  split at h
  · exact ⟨_, by assumption, h⟩
  · exact h.elim
theorem onC_mk {st : List Cell} {k : Nat} {P : List Dt → Prop} {xs : List Dt} (e : st[k]? = some (.lst xs)) (h : P xs) : onC st k P := by
  unfold onC
  rw [e]
  exact h
section
variable {X : Cx}

def dVar (i : Nat) : DE := fun m Q => match m.sl[i]? with
  | some (some v) => Q v m
  | _ => False
theorem dVar_elim {i : Nat} {m : M} {Q : Vl → M → Prop} (h : dVar i m Q) : ∃ v, m.sl[i]? = some (some v) ∧ Q v m := by
  unfold dVar at h
  split at h
  · exact ⟨_, by assumption, h⟩
  · exact h.elim
theorem je_var (i : Nat) {x : Str} {pos : Pos} (hN : X.N[i]? = some x := by rfl) (hv : Vis X.env.scope x := by first | exact Or.inl rfl | exact Or.inr (Or.inl rfl) | exact Or.inr (Or.inr rfl)) (hd : (x == ("__debug__" : Str)) = false := by decide)
    (hcd : (x == ("__classdict__" : Str)) = false := by decide) : JE X (.Name x pos) (dVar i) :=
  (pv i hN hv hd hcd).imp fun σ H Q ⟨W, F, A, m, Qd, G, h, c⟩ => by
    obtain ⟨v, e, q⟩ := dVar_elim h
    obtain ⟨u, e', r⟩ := G.sl i v e
    exact ⟨u, e', c F A v m H (Same.refl _) (pre_refl _) G q u r⟩
def dFz (i : Nat) : DE := fun m Q => match m.sl[i]? with
  | some (some (.d x)) => Q (.d x) m
  | some (some (.c k)) => onC m.st k fun xs => Q (.d (.lst xs)) (frz k xs m)
  | _ => False
def dC (x : Dt) : DE := fun m Q => Q (.d x) m
theorem lift_c {K : PySem.W.Frag} {x : Dt} {v : V} (r : ∀ F, Rep K F x v) {σ : L2.St} {H : Hp} {Q : VK} (h : lift K (dC x) σ H Q) : tC v σ H Q := by
  obtain ⟨W, F, A, m, Qd, G, h, c⟩ := h
  exact c F A _ m H (Same.refl _) (pre_refl _) G h v (r F)
theorem rep_int {K : PySem.W.Frag} {F : Hp} {i : Int} : Rep K F (.int i) (.int i) := by simp only [Rep]
theorem rep_bl {K : PySem.W.Frag} {F : Hp} {b : Bool} : Rep K F (.bl b) (.bl b) := by simp only [Rep]
theorem rep_non {K : PySem.W.Frag} {F : Hp} : Rep K F .non .non := by simp only [Rep]
theorem rep_str {K : PySem.W.Frag} {F : Hp} {s : Str} : Rep K F (.str s) (.str s) := by simp only [Rep]
theorem je_int {i j pos} : JE X (.Constant (.int i) j pos) (dC (.int i)) := pe_int.imp fun _ _ _ h => lift_c (fun _ => rep_int) h
theorem je_bl {b j pos} : JE X (.Constant (.bool b) j pos) (dC (.bl b)) := pe_bl.imp fun _ _ _ h => lift_c (fun _ => rep_bl) h
structure GlobD (X : Cx) (x : Str) (d : Dt) : Prop where
  gl : Gl X x
  val : ∃ (v : V) (u : Value), X.mg x = some u ∧ RelV v u ∧ ∀ F, Rep X.K F d v
  nd : (x == ("__debug__" : Str)) = false
theorem je_glob {x : Str} {d : Dt} {pos : Pos} (g : GlobD X x d) : JE X (.Name x pos) (dC d) := by
  obtain ⟨hg, ⟨v, u, hm, r, rp⟩, nd⟩ := g
  exact (pe_glob hg hm r nd).imp fun _ _ _ h => lift_c rp h

abbrev DR2 := Dt → Dt → (Dt → Prop) → Prop
def dOp (r : DR2) (ta tb : DE) : DE := fun m Q => ta m fun v m1 => tb m1 fun w m2 => onV m2 v fun x => onV m2 w fun y => r x y fun z => Q (.d z) m2
def ValD (K : PySem.W.Frag) (R : V → V → Hp → VK → Prop) (r : DR2) : Prop :=
  ∀ (W F : Hp) (A : List Addr) (m : M) (σ : L2.St) (H : Hp) (x y : Dt) (u v : V) (P : Dt → Prop) (Q : VK), Good K W F A m σ H → RepB K F H x u → RepB K F H y v → r x y P →
    (∀ F' H' z w, Same F F' → Good K W F' A m σ H' → Rep K F' z w → P z → Q w H') → R u v H Q
def OpD (X : Cx) (f : Value → Value → Sem Value) (r : DR2) : Prop := ∃ R : R2, OpR X f R ∧ ValD X.K R r
theorem lift_op {K : PySem.W.Frag} {R : R2} {r : DR2} {ta tb : DE} (hR : ValD K R r) {σ : L2.St} {H : Hp} {Q : VK} (h : lift K (dOp r ta tb) σ H Q) : tOp R (lift K ta) (lift K tb) σ H Q := by
  obtain ⟨W, F, A, m, Qd, G, h, c⟩ := h
  refine ⟨W, F, A, m, _, G, h, fun F1 A1 v m1 H1 s1 p1 G1 q1 u r1 => ⟨W, F1, A1, m1, _, G1, q1, fun F2 A2 w m2 H2 s2 p2 G2 q2 u2 r2 => ?_⟩⟩
  obtain ⟨x, ex, q2⟩ := onV_elim q2
  obtain ⟨y, ey, q2⟩ := onV_elim q2
  exact hR W F2 A2 m2 σ H2 x y u u2 _ Q G2 (G2.view (RepV.mono s2 p2 r1) ex) (G2.view r2 ey) q2 fun F' H' z w s' G' rz pz => c F' A2 (.d z) m2 H' (s1.trans (s2.trans s')) (pre_trans p1 p2) G' pz w rz
theorem je_op {a b : Expr} {ta tb : DE} {op : Operator} {r : DR2} {pos : Pos} (ho : OpD X (binaryOp op) r) (ha : JE X a ta) (hb : JE X b tb) : JE X (.BinOp a op b pos) (dOp r ta tb) := by
  obtain ⟨R, hO, hR⟩ := ho
  exact (pe_op hO ha hb).imp fun _ _ _ h => lift_op hR h
theorem je_cmp {a b : Expr} {ta tb : DE} {op : CmpOp} {r : DR2} {pos : Pos} (ho : OpD X (compareOp op) r) (ha : JE X a ta) (hb : JE X b tb) (hm : behindInMarks op b = false) : JE X (.Compare a [op] [b] pos) (dOp r ta tb) := by
  obtain ⟨R, hO, hR⟩ := ho
  exact (pe_cmpR hO ha hb hm).imp fun _ _ _ h => lift_op hR h

def dTest (t : DE) : DT := fun m Q => t m fun v m1 => match v with
  | .d (.bl b) => Q b m1
  | _ => False
theorem dTest_elim {v : Vl} {k : Bool → Prop} (h : match v with
  | .d (.bl b) => k b
  | _ => False) : ∃ b, v = .d (.bl b) ∧ k b := by
  split at h
  · exact ⟨_, rfl, h⟩
  · exact h.elim
theorem jt_cmp {a b : Expr} {ta tb : DE} {op : CmpOp} {r : DR2} {pos : Pos} (ho : OpD X (compareOp op) r) (ha : JE X a ta) (hb : JE X b tb) (hm : behindInMarks op b = false) : JT X (.Compare a [op] [b] pos) (dTest (dOp r ta tb)) := by
  obtain ⟨R, hO, hR⟩ := ho
  refine (pt_cmpR hO ha hb hm).imp fun σ H Q h => ?_
  obtain ⟨W, F, A, m, Qd, G, h, c⟩ := h
  refine lift_op hR ⟨W, F, A, m, _, G, h, fun F1 A1 v m1 H1 s1 p1 G1 q1 u r1 => ?_⟩
  obtain ⟨k, rfl, q⟩ := dTest_elim q1
  have r1' : Rep X.K F1 (.bl k) u := r1
  simp only [Rep] at r1'
  exact ⟨k, r1', c F1 A1 k m1 H1 s1 p1 G1 q⟩

def rInt (C : Int → Int → Prop) (g : Int → Int → Dt) : DR2 := fun x y P => match x, y with
  | .int i, .int j => C i j ∧ P (g i j)
  | _, _ => False
theorem rInt_elim {C : Int → Int → Prop} {g : Int → Int → Dt} {x y : Dt} {P : Dt → Prop} (h : rInt C g x y P) : ∃ i j, x = .int i ∧ y = .int j ∧ C i j ∧ P (g i j) := by
  unfold rInt at h
  split at h
  · exact ⟨_, _, rfl, rfl, h⟩
  · exact h.elim
theorem repB_int {K : PySem.W.Frag} {F H : Hp} {i : Int} {u : V} (h : RepB K F H (.int i) u) : u = .int i := by
  have h' : Rep K F (.int i) u := h
  simpa only [Rep] using h'
theorem repB_str {K : PySem.W.Frag} {F H : Hp} {i : Str} {u : V} (h : RepB K F H (.str i) u) : u = .str i := by
  have h' : Rep K F (.str i) u := h
  simpa only [Rep] using h'
theorem repB_bl {K : PySem.W.Frag} {F H : Hp} {i : Bool} {u : V} (h : RepB K F H (.bl i) u) : u = .bl i := by
  have h' : Rep K F (.bl i) u := h
  simpa only [Rep] using h'
theorem repB_non {K : PySem.W.Frag} {F H : Hp} {u : V} (h : RepB K F H .non u) : u = .non := by
  have h' : Rep K F .non u := h
  simpa only [Rep] using h'
theorem opD_int {f : Value → Value → Sem Value} {C : Int → Int → Prop} {g : Int → Int → V} {gd : Int → Int → Dt} (h : OpR X f (rI C g)) (hg : ∀ F i j, Rep X.K F (gd i j) (g i j)) : OpD X f (rInt C gd) :=
  ⟨_, h, fun W F A m σ H x y u v P Q G rx ry q c => by
    obtain ⟨i, j, rfl, rfl, hc, q⟩ := rInt_elim q
    exact ⟨i, j, repB_int rx, repB_int ry, hc, c F H _ _ (Same.refl _) G (hg F i j) q⟩⟩
theorem opD_int0 {f : Value → Value → Sem Value} {g : Int → Int → V} {gd : Int → Int → Dt} (h : OpR X f (rI0 g)) (hg : ∀ F i j, Rep X.K F (gd i j) (g i j)) : OpD X f (rInt (fun _ _ => True) gd) :=
  ⟨_, h, fun W F A m σ H x y u v P Q G rx ry q c => by
    obtain ⟨i, j, rfl, rfl, hc, q⟩ := rInt_elim q
    exact ⟨i, j, repB_int rx, repB_int ry, c F H _ _ (Same.refl _) G (hg F i j) q⟩⟩
theorem o_sub : OpD X (binaryOp .Sub) (rInt (fun _ _ => True) fun i j => .int (i - j)) := opD_int0 op_sub fun _ _ _ => rep_int
def MulOk (i j : Int) : Prop := i.natAbs.log2 + j.natAbs.log2 < 67108864
theorem MulOk.ok {i j : Int} (h : MulOk i j) : IntMulOk i j := by
  have b : ∀ x : Int, Builtin.Int.intBits x ≤ x.natAbs.log2 + 1 := fun x => by
    unfold Builtin.Int.intBits
    split <;> omega
  have h1 := b i
  have h2 := b j
  have h3 : i.natAbs.log2 + j.natAbs.log2 < 67108864 := h
  have e : bitsLine = 134217728 := by decide
  unfold IntMulOk
  intro z
  rw [Bool.and_eq_true] at z
  have z2 := z.2
  unfold Builtin.Int.intTooBig at z2
  have z3 := of_decide_eq_true z2
  rw [e] at z3
  omega
theorem o_mul : OpD X (binaryOp .Mult) (rInt MulOk fun i j => .int (i * j)) := opD_int (C := MulOk) (opI fun _ _ _ _ _ _ _ hc q => mul_int q hc.ok) fun _ _ _ => rep_int
theorem o_mod : OpD X (binaryOp .Mod) (rInt (fun _ j => j ≠ 0) fun i j => .int (i.fmod j)) := opD_int op_modN fun _ _ _ => rep_int
theorem o_pow : OpD X (binaryOp .Pow) (rInt CPow fun i j => .int (i ^ j.toNat)) := opD_int op_pow fun _ _ _ => rep_int
theorem o_lt : OpD X (compareOp .Lt) (rInt (fun _ _ => True) fun i j => .bl (decide (i < j))) := opD_int0 op_lt fun _ _ _ => rep_bl
theorem o_le : OpD X (compareOp .LtE) (rInt (fun _ _ => True) fun i j => .bl (decide (i ≤ j))) := opD_int0 op_le fun _ _ _ => rep_bl
theorem o_gt : OpD X (compareOp .Gt) (rInt (fun _ _ => True) fun i j => .bl (decide (j < i))) := opD_int0 op_gt fun _ _ _ => rep_bl
theorem o_ge : OpD X (compareOp .GtE) (rInt (fun _ _ => True) fun i j => .bl (decide (j ≤ i))) := opD_int0 op_ge fun _ _ _ => rep_bl
end
end RT

set_option maxRecDepth 100000
set_option maxHeartbeats 4000000
namespace RT
open PySem PySem.Spec PyProof.Rows L2
section
variable {X : Cx}

theorem rv_int {K : PySem.W.Frag} {F : Hp} {A : List Addr} {i : Int} : RepV K F A (.d (.int i)) (.int i) := rep_int (K := K) (F := F)
theorem rv_bl {K : PySem.W.Frag} {F : Hp} {A : List Addr} {b : Bool} : RepV K F A (.d (.bl b)) (.bl b) := rep_bl (K := K) (F := F)
theorem rv_non {K : PySem.W.Frag} {F : Hp} {A : List Addr} : RepV K F A (.d .non) .non := rep_non (K := K) (F := F)

def Pyl (X : Cx) : Prop := ∀ s : Shared, (∀ b o, X.base.get? b = some o → s.heap.get? b = some o) → PySem.PylongRoom (model X.prog X.w) X.A s
def rFdiv : R2 := rI (fun _ j => j ≠ 0) fun i j => .int (i.fdiv j)
theorem op_fdivA (hp : Pyl X) : OpR X (binaryOp .FloorDiv) rFdiv := by
  intro pins s σ H x y v u Q I rx ry h
  obtain ⟨i, j, rfl, rfl, hc, q⟩ := h
  obtain ⟨t, rfl⟩ := rx
  obtain ⟨t', rfl⟩ := ry
  exact floordiv_int hc ⟨.int _, H, I.tok _, ⟨_, rfl⟩, q⟩ (.inr (hp s I.bk))
theorem o_fdiv (hp : Pyl X) : OpD X (binaryOp .FloorDiv) (rInt (fun _ j => j ≠ 0) fun i j => .int (i.fdiv j)) := opD_int (op_fdivA hp) fun _ _ _ => rep_int

def rU (f : Dt → (Dt → Prop) → Prop) (t : DE) : DE := fun m Q => t m fun v m1 => onD v fun x => f x fun z => Q (.d z) m1
def rNeg : Dt → (Dt → Prop) → Prop := fun x P => match x with
  | .int i => P (.int (-i))
  | _ => False
theorem je_neg {a : Expr} {ta : DE} {pos : Pos} (ha : JE X a ta) : JE X (.UnaryOp .USub a pos) (rU rNeg ta) := by
  refine (pe_un un_neg ha).imp fun σ H Q h => ?_
  obtain ⟨W, F, A, m, Qd, G, h, c⟩ := h
  refine ⟨W, F, A, m, _, G, h, fun F1 A1 v m1 H1 s1 p1 G1 q1 u r1 => ?_⟩
  obtain ⟨x, rfl, q⟩ := onD_elim q1
  cases x with
  | int i =>
    have e : u = .int i := repB_int (H := H1) r1
    exact ⟨i, e, c F1 A1 _ m1 H1 s1 p1 G1 q _ rv_int⟩
  | _ => exact (show False from q).elim

theorem repB_tup {K : PySem.W.Frag} {F H : Hp} {ds : List Dt} {u : V} (h : RepB K F H (.tup ds) u) : ∃ a vs, u = .ref a ∧ SqT K F a vs ∧ Reps K F ds vs := by
  have h' : Rep K F (.tup ds) u := h
  simpa only [Rep] using h'

def truD : Dt → (Bool → Prop) → Prop := fun x P => match x with
  | .non => P false
  | .bl b => P b
  | .int i => P (i != 0)
  | .str y => y.length ≤ sizeLine ∧ P ((y.length : Int) != 0)
  | .lst xs => P (!xs.isEmpty)
  | .tup xs => P (!xs.isEmpty)
def dTru (t : DE) : DT := fun m Q => t m fun v m1 => onV m1 v fun x => truD x fun b => Q b m1
theorem empty_eq {K : PySem.W.Frag} {F : Hp} {ds : List Dt} {vs : List V} (r : Reps K F ds vs) : ds.isEmpty = vs.isEmpty := by
  have e := r.length
  cases ds <;> cases vs <;> first | rfl | (simp at e)
theorem jt_tru {a : Expr} {ta : DE} (ha : JE X a ta) (he : ∀ whole, isTrue a X.env whole = (do let v ← whole; standAt a.pos; holding [v] (truthy v)) := by intro _; rfl) : JT X a (dTru ta) := by
  refine (pt_truth ha he).imp fun σ H Q h => ?_
  obtain ⟨W, F, A, m, Qd, G, h, c⟩ := h
  refine ⟨W, F, A, m, _, G, h, fun F1 A1 v m1 H1 s1 p1 G1 q1 u r1 => ?_⟩
  obtain ⟨x, ex, q⟩ := onV_elim q1
  have rb := G1.view r1 ex
  cases x with
  | non =>
    rw [repB_non rb]
    exact ⟨false, rfl, c F1 A1 _ m1 H1 s1 p1 G1 q⟩
  | bl b =>
    rw [repB_bl rb]
    exact ⟨b, rfl, c F1 A1 _ m1 H1 s1 p1 G1 q⟩
  | int i =>
    rw [repB_int rb]
    exact ⟨_, rfl, c F1 A1 _ m1 H1 s1 p1 G1 q⟩
  | str y =>
    rw [repB_str rb]
    exact ⟨_, ⟨q.1, rfl⟩, c F1 A1 _ m1 H1 s1 p1 G1 q.2⟩
  | lst xs =>
    obtain ⟨a, vs, rfl, hs, rs⟩ := rb
    have q' : Qd (!xs.isEmpty) m1 := q
    rw [empty_eq rs] at q'
    exact ⟨_, .inl ⟨vs, .inl hs, rfl⟩, c F1 A1 _ m1 H1 s1 p1 G1 q'⟩
  | tup xs =>
    obtain ⟨a, vs, rfl, hs, rs⟩ := repB_tup rb
    have hs := seqT_mono G1.ext hs
    have q' : Qd (!xs.isEmpty) m1 := q
    rw [empty_eq rs] at q'
    exact ⟨_, .inr (.inl ⟨vs, hs, rfl⟩), c F1 A1 _ m1 H1 s1 p1 G1 q'⟩
def dAnd (t u : DT) : DT := fun m Q => t m fun b m1 => if b = true then u m1 Q else Q false m1
def dOr (t u : DT) : DT := fun m Q => t m fun b m1 => if b = true then Q true m1 else u m1 Q
def dNot (t : DT) : DT := fun m Q => t m fun b m1 => Q (!b) m1
variable {a b : Expr} {rest : List Expr} {pos : Pos} {t u : DT} {ta tb : DE}
theorem jw_and1 (h : JT X a t) : JW X (.BoolOp .And [a] pos) t := pw_and1 h
theorem jw_or1 (h : JT X a t) : JW X (.BoolOp .Or [a] pos) t := pw_or1 h
theorem jw_and (h : JT X a t) (h' : JW X (.BoolOp .And (b :: rest) pos) u) : JW X (.BoolOp .And (a :: b :: rest) pos) (dAnd t u) := by
  refine (pw_and h h').imp fun σ H Q hh => ?_
  obtain ⟨W, F, A, m, Qd, G, h, c⟩ := hh
  refine ⟨W, F, A, m, _, G, h, fun F1 A1 v m1 H1 s1 p1 G1 q1 => ?_⟩
  cases v with
  | true => exact ⟨W, F1, A1, m1, _, G1, q1, fun F2 A2 w m2 H2 s2 p2 G2 q2 => c F2 A2 w m2 H2 (s1.trans s2) (pre_trans p1 p2) G2 q2⟩
  | false => exact c F1 A1 false m1 H1 s1 p1 G1 q1
theorem jw_or (h : JT X a t) (h' : JW X (.BoolOp .Or (b :: rest) pos) u) : JW X (.BoolOp .Or (a :: b :: rest) pos) (dOr t u) := by
  refine (pw_or h h').imp fun σ H Q hh => ?_
  obtain ⟨W, F, A, m, Qd, G, h, c⟩ := hh
  refine ⟨W, F, A, m, _, G, h, fun F1 A1 v m1 H1 s1 p1 G1 q1 => ?_⟩
  cases v with
  | true => exact c F1 A1 true m1 H1 s1 p1 G1 q1
  | false => exact ⟨W, F1, A1, m1, _, G1, q1, fun F2 A2 w m2 H2 s2 p2 G2 q2 => c F2 A2 w m2 H2 (s1.trans s2) (pre_trans p1 p2) G2 q2⟩
theorem jw_pt {e : Expr} (h : JW X e t) : JT X e t := PW.pt h
theorem jt_not (h : JT X a t) : JT X (.UnaryOp .Not a pos) (dNot t) := by
  refine (pt_not h).imp fun σ H Q hh => ?_
  obtain ⟨W, F, A, m, Qd, G, h, c⟩ := hh
  exact ⟨W, F, A, m, _, G, h, fun F1 A1 v m1 H1 s1 p1 G1 q1 => c F1 A1 _ m1 H1 s1 p1 G1 q1⟩

def dAndV (t u : DE) : DE := fun m Q => t m fun v m1 => match v with
  | .d (.bl b) => if b = true then u m1 Q else Q (.d (.bl false)) m1
  | _ => False
def dOrV (t u : DE) : DE := fun m Q => t m fun v m1 => match v with
  | .d (.bl b) => if b = true then Q (.d (.bl true)) m1 else u m1 Q
  | _ => False
def dNotV (t : DE) : DE := fun m Q => t m fun v m1 => match v with
  | .d (.bl b) => Q (.d (.bl (!b))) m1
  | _ => False
theorem je_one {op} (h : JE X a ta) : JE X (.BoolOp op [a] pos) ta := pe_one h
theorem je_and (h : JE X a ta) (h' : JE X (.BoolOp .And (b :: rest) pos) tb) : JE X (.BoolOp .And (a :: b :: rest) pos) (dAndV ta tb) := by
  refine (pe_and h h').imp fun σ H Q hh => ?_
  obtain ⟨W, F, A, m, Qd, G, h, c⟩ := hh
  refine ⟨W, F, A, m, _, G, h, fun F1 A1 v m1 H1 s1 p1 G1 q1 u r1 => ?_⟩
  obtain ⟨b, rfl, q⟩ := dTest_elim q1
  rw [repB_bl (H := H1) r1]
  refine ⟨b, rfl, ?_⟩
  cases b with
  | true => exact ⟨W, F1, A1, m1, _, G1, q, fun F2 A2 w m2 H2 s2 p2 G2 q2 => c F2 A2 w m2 H2 (s1.trans s2) (pre_trans p1 p2) G2 q2⟩
  | false => exact c F1 A1 _ m1 H1 s1 p1 G1 q _ rv_bl
theorem je_or (h : JE X a ta) (h' : JE X (.BoolOp .Or (b :: rest) pos) tb) : JE X (.BoolOp .Or (a :: b :: rest) pos) (dOrV ta tb) := by
  refine (pe_or h h').imp fun σ H Q hh => ?_
  obtain ⟨W, F, A, m, Qd, G, h, c⟩ := hh
  refine ⟨W, F, A, m, _, G, h, fun F1 A1 v m1 H1 s1 p1 G1 q1 u r1 => ?_⟩
  obtain ⟨b, rfl, q⟩ := dTest_elim q1
  rw [repB_bl (H := H1) r1]
  refine ⟨b, rfl, ?_⟩
  cases b with
  | true => exact c F1 A1 _ m1 H1 s1 p1 G1 q _ rv_bl
  | false => exact ⟨W, F1, A1, m1, _, G1, q, fun F2 A2 w m2 H2 s2 p2 G2 q2 => c F2 A2 w m2 H2 (s1.trans s2) (pre_trans p1 p2) G2 q2⟩
theorem je_notV (h : JE X a ta) : JE X (.UnaryOp .Not a pos) (dNotV ta) := by
  refine (pe_not h).imp fun σ H Q hh => ?_
  obtain ⟨W, F, A, m, Qd, G, h, c⟩ := hh
  refine ⟨W, F, A, m, _, G, h, fun F1 A1 v m1 H1 s1 p1 G1 q1 u r1 => ?_⟩
  obtain ⟨b, rfl, q⟩ := dTest_elim q1
  rw [repB_bl (H := H1) r1]
  exact ⟨b, rfl, c F1 A1 _ m1 H1 s1 p1 G1 q _ rv_bl⟩

def isN : Dt → Bool
  | .non => true
  | _ => false
def dIsN (t : DE) : DE := fun m Q => t m fun v m1 => onD v fun x => Q (.d (.bl (isN x))) m1
def dNotN (t : DE) : DE := fun m Q => t m fun v m1 => onD v fun x => Q (.d (.bl (!isN x))) m1

def dNil : DA := fun m Q => Q [] m
def dCons (t : DE) (ts : DA) : DA := fun m Q => t m fun v m1 => ts m1 fun vs m2 => Q (v :: vs) m2
theorem ja_nil : JA X [] dNil := pa_nil.imp fun σ H Q ⟨W, F, A, m, Qd, G, h, c⟩ => c F A [] m H (Same.refl _) (pre_refl _) G h [] rfl
theorem ja_cons {e : Expr} {es : List Expr} {ts : DA} (h : JE X e ta) (hs : JA X es ts) (he : starEach (e :: es) X.env = (false, eval e X.env) :: starEach es X.env := by rfl) : JA X (e :: es) (dCons ta ts) := by
  refine (pa_cons h hs he).imp fun σ H Q hh => ?_
  obtain ⟨W, F, A, m, Qd, G, h, c⟩ := hh
  refine ⟨W, F, A, m, _, G, h, fun F1 A1 v m1 H1 s1 p1 G1 q1 u r1 => ⟨W, F1, A1, m1, _, G1, q1, fun F2 A2 vs m2 H2 s2 p2 G2 q2 us r2 => ?_⟩⟩
  exact c F2 A2 (v :: vs) m2 H2 (s1.trans s2) (pre_trans p1 p2) G2 q2 (u :: us) ⟨u, us, rfl, RepV.mono s2 p2 r1, r2⟩
def onDs : List Vl → (List Dt → Prop) → Prop
  | [], k => k []
  | .d x :: r, k => onDs r fun xs => k (x :: xs)
  | .c _ :: _, _ => False
theorem onDs_elim : ∀ {vs : List Vl} {k : List Dt → Prop}, onDs vs k → ∃ xs, vs = xs.map .d ∧ k xs
  | [], _, h => ⟨[], rfl, h⟩
  | .d x :: r, k, h => by
    obtain ⟨xs, e, q⟩ := onDs_elim (vs := r) h
    exact ⟨x :: xs, by rw [e]; rfl, q⟩
  | .c _ :: _, _, h => h.elim
theorem reps_of {K : PySem.W.Frag} {F : Hp} {A : List Addr} : ∀ {xs : List Dt} {us : List V}, RepVs K F A (xs.map .d) us → Reps K F xs us
  | [], us, h => by
    have e : us = [] := h
    rw [e]
    exact .nil
  | x :: xs, us, h => by
    obtain ⟨u, r, rfl, h1, h2⟩ := h
    exact .cons h1 (reps_of h2)

def dTup (ts : DA) : DE := fun m Q => ts m fun vs m1 => vs.length ≤ sizeLine ∧ onDs vs fun xs => Q (.d (.tup xs)) m1
def dLst (ts : DA) : DE := fun m Q => ts m fun vs m1 => vs.length ≤ sizeLine ∧ onDs vs fun xs => Q (.d (.lst xs)) m1
def dLstO (ts : DA) : DE := fun m Q => ts m fun vs m1 => vs.length ≤ sizeLine ∧ onDs vs fun xs => Q (.c m1.st.length) ⟨m1.sl, m1.st ++ [.lst xs]⟩
theorem je_tup {es : List Expr} {ts : DA} {k} (h : JA X es ts) : JE X (.Tuple es k pos) (dTup ts) := by
  refine (pe_tup h).imp fun σ H Q hh => ?_
  obtain ⟨W, F, A, m, Qd, G, h, c⟩ := hh
  refine ⟨W, F, A, m, _, G, h, fun F1 A1 vs m1 H1 s1 p1 G1 q1 us r1 => ⟨by rw [← r1.length]; exact q1.1, fun p np => ?_⟩⟩
  obtain ⟨xs, rfl, q⟩ := onDs_elim q1.2
  have rs := reps_of r1
  have s2 := same_upd (o := .tup us) (G1.ext.free np)
  refine c (upd F1 p (.tup us)) A1 _ m1 _ (s1.trans s2) p1 (G1.laid np) q _ ?_
  show Rep X.K _ (.tup xs) _
  simp only [Rep]
  exact ⟨p, us, rfl, SqT.of upd_same, Reps.mono s2 rs⟩
theorem je_lst {es : List Expr} {ts : DA} (h : JA X es ts) : JE X (.List es pos) (dLst ts) := by
  refine (pe_lst h).imp fun σ H Q hh => ?_
  obtain ⟨W, F, A, m, Qd, G, h, c⟩ := hh
  refine ⟨W, F, A, m, _, G, h, fun F1 A1 vs m1 H1 s1 p1 G1 q1 us r1 => ⟨by rw [← r1.length]; exact q1.1, fun p np => ?_⟩⟩
  obtain ⟨xs, rfl, q⟩ := onDs_elim q1.2
  have rs := reps_of r1
  have s2 := same_upd (o := .lst us) (G1.ext.free np)
  refine c (upd F1 p (.lst us)) A1 _ m1 _ (s1.trans s2) p1 (G1.laid np) q _ ?_
  show Rep X.K _ (.lst xs) _
  simp only [Rep]
  exact ⟨p, us, rfl, Rd.of upd_same, Reps.mono s2 rs⟩
theorem je_lstO {es : List Expr} {ts : DA} (h : JA X es ts) : JE X (.List es pos) (dLstO ts) := by
  refine (pe_lst h).imp fun σ H Q hh => ?_
  obtain ⟨W, F, A, m, Qd, G, h, c⟩ := hh
  refine ⟨W, F, A, m, _, G, h, fun F1 A1 vs m1 H1 s1 p1 G1 q1 us r1 => ⟨by rw [← r1.length]; exact q1.1, fun p np => ?_⟩⟩
  obtain ⟨xs, rfl, q⟩ := onDs_elim q1.2
  refine c F1 (A1 ++ [p]) _ _ _ s1 (pre_trans p1 ⟨[p], rfl⟩) (G1.own np (reps_of r1)) q _ ⟨p, ?_, rfl⟩
  rw [← G1.len]
  simp

def onO {α : Type} (o : Option α) (P : α → Prop) : Prop := match o with
  | some z => P z
  | none => False
theorem onO_elim {α : Type} {o : Option α} {P : α → Prop} (h : onO o P) : ∃ z, o = some z ∧ P z := by
  cases o with
  | none => exact h.elim
  | some z => exact ⟨z, rfl, h⟩
theorem onO_mk {α : Type} {o : Option α} {P : α → Prop} {z : α} (e : o = some z) (h : P z) : onO o P := by
  rw [e]
  exact h
def rIx : DR2 := fun x y P => match x, y with
  | .lst xs, .int i => onO (atI xs i) P
  | .tup xs, .int i => onO (atI xs i) P
  | .str s, .int i => s.length ≤ sizeLine ∧ onO (atI s.cps.toList i) fun c => P (.str ⟨#[c]⟩)
  | _, _ => False
theorem atI_reps {K : PySem.W.Frag} {F : Hp} {xs : List Dt} {vs : List V} {i : Int} {z : Dt} (r : Reps K F xs vs) (h : atI xs i = some z) : ∃ v, atI vs i = some v ∧ Rep K F z v := by
  unfold atI at h ⊢
  rw [← r.length]
  cases q : ixN xs.length i with
  | none =>
    rw [q] at h
    cases h
  | some j =>
    rw [q] at h
    exact r.get (i := j) h
theorem val_ix : ValD X.K (L2.rIx X.K) rIx := by
  intro W F A m σ H x y u v P Q G rx ry q c
  have go : ∀ z w, Rep X.K F z w → P z → Q w H := fun z w rz pz => c F H z w (Same.refl _) G rz pz
  unfold rIx at q
  split at q
  · obtain ⟨a, vs, rfl, hs, rs⟩ := rx
    obtain ⟨z, e, q⟩ := onO_elim q
    obtain ⟨w, hw, rz⟩ := atI_reps rs e
    exact .inl ⟨a, vs, _, w, rfl, repB_int ry, .inl hs, hw, go z w rz q⟩
  · obtain ⟨a, vs, rfl, hs, rs⟩ := repB_tup rx
    have hs := seqT_mono G.ext hs
    obtain ⟨z, e, q⟩ := onO_elim q
    obtain ⟨w, hw, rz⟩ := atI_reps rs e
    exact .inr (.inl ⟨a, vs, _, w, rfl, repB_int ry, hs, hw, go z w rz q⟩)
  · obtain ⟨hl, q⟩ := q
    obtain ⟨z, e, q⟩ := onO_elim q
    exact .inr (.inr ⟨_, _, z, repB_str rx, repB_int ry, hl, e, go _ _ rep_str q⟩)
  · exact q.elim
theorem je_ix (ha : JE X a ta) (hb : JE X b tb) (hs : PlainIx b := by intro _ _; rfl) : JE X (.Subscript a b pos) (dOp rIx ta tb) :=
  (pe_ix ix_seq ha hb hs).imp fun _ _ _ h => lift_op val_ix h
end
end RT

set_option maxRecDepth 100000
set_option maxHeartbeats 4000000
namespace RT
open PySem PySem.Spec PyProof.Rows L2

structure GRoom (k : Nat) (A : Around) : Prop where
  room : Room k A
  gd : A.guards = some []
  dp : A.depth + 3 * k + 160 < recursionLimit
theorem GRoom.mono {j k : Nat} {A : Around} (r : GRoom k A) (h : j ≤ k) : GRoom j A := ⟨r.room.mono h, r.gd, by have := r.dp; omega⟩
theorem GRoom.deeper {k : Nat} {A : Around} (r : GRoom (k + 1) A) (env : Env) : GRoom k (A.deeper env) :=
  ⟨r.room.deeper env, r.gd, by have := r.dp; show A.depth + 1 + 3 * k + 160 < _; omega⟩
theorem GRoom.hu {k : Nat} {A : Around} (r : GRoom k A) : A.units + 64 < cLine := r.room.units
structure BaseOk (K : PySem.W.Frag) (mg : Str → Option Value) (base : Heap) : Prop where
  seer : base.NoSeer
  tb : ∀ q ∈ tabsK K, GxR.TabB base mg q.1 q.2
def CodeIs (K : PySem.W.Frag) (f : Addr) (cdv : Value) : Prop := ∃ (oc : Value) (od : Option Addr) (fd : FuncData) (osl : Array (Option Value)), K.lookup f = some ⟨oc, od, .func fd, osl⟩ ∧ fd.code = cdv
structure Amb (k : Nat) (X : Cx) : Prop where
  rm : GRoom k X.A
  py : Pyl X
  tb : ∀ q ∈ tabsK X.K, GxR.TabB X.base X.mg q.1 q.2
theorem Amb.mono {j k : Nat} {X : Cx} (r : Amb k X) (h : j ≤ k) : Amb j X := ⟨r.rm.mono h, r.py, r.tb⟩
theorem Amb.hu {k : Nat} {X : Cx} (r : Amb k X) : X.A.units + 64 < cLine := r.rm.room.units

structure Fnn (P : Program) (w : World) (K : PySem.W.Frag) (mg : Str → Option Value) (base : Heap) (CX : CXT) (k : Nat) (f : Addr) (fd : FuncData) (ps : List Str) (sp : Sp) : Prop where
  len : ∀ vs H Q E, sp vs H Q E → vs.length = ps.length
  run : ∀ (A : Around) (outer : List Env) (s : Shared) (H : Hp) (args : Args) (us : List Value) (vs : List V) (Q : VK) (E : XK), GRoom k A → Env0 P w K mg base A outer s H → BindsTo s fd args (ps.zip us) → Vals vs us → sp vs H Q E →
    codeAny (model P w) A (.call (.ref f) args) (CR CX outer P w H s Q E) s
theorem Fnn.mono {P : Program} {w : World} {K : PySem.W.Frag} {mg : Str → Option Value} {base : Heap} {CX : CXT} {j k : Nat} {f : Addr} {fd : FuncData} {ps : List Str} {sp : Sp} (F : Fnn P w K mg base CX j f fd ps sp) (h : j ≤ k) :
    Fnn P w K mg base CX k f fd ps sp := ⟨F.len, fun A outer s H args us vs Q E hr => F.run A outer s H args us vs Q E (hr.mono h)⟩
theorem Fnn.imp {P : Program} {w : World} {K : PySem.W.Frag} {mg : Str → Option Value} {base : Heap} {CX : CXT} {k : Nat} {f : Addr} {fd : FuncData} {ps : List Str} {sp sp' : Sp} (F : Fnn P w K mg base CX k f fd ps sp)
    (h : ∀ vs H Q E, sp' vs H Q E → sp vs H Q E) : Fnn P w K mg base CX k f fd ps sp' :=
  ⟨fun vs H Q E q => F.len vs H Q E (h _ _ _ _ q), fun A outer s H args us vs Q E hr he hb hv hs => F.run A outer s H args us vs Q E hr he hb hv (h _ _ _ _ hs)⟩
section
variable {X : Cx} {CX : CXT} {k : Nat} {f C : Addr} {fd : FuncData} {ps : List Str} {sp : Sp} {dvs : List V} {ds : List Value} {E : XK} {x m : Str} {p pos apos : Pos} {e o : Expr} {es : List Expr} {ta : TE} {t : TA}
theorem run_fnn {pins : List (Addr × Obj)} {σ : L2.St} {H : Hp} {s : Shared} {Q : VK} {us : List Value} {vs : List V} (F : Fnn X.prog X.w X.K X.mg X.base CX k f fd ps sp) (hr : GRoom k X.A) (hb : Binds X.K fd ps ds) (hd : Vals dvs ds) (hx : Passes CX X E)
    (I : Inv X pins σ H s) (r : Vals vs us) (h : sp (vs ++ dvs) H Q E) : wpAny (model X.prog X.w) X.A (call (.ref f) us) (EP X pins σ Q) X.xe s := by
  have r2 : Vals (vs ++ dvs) (us ++ ds) := r.append hd
  have hl : (us ++ ds).length = ps.length := by rw [← r2.length]; exact F.len _ _ _ _ h
  refine wpAny_call (codeAny_mono (F.run X.A X.stack s H ⟨us, []⟩ (us ++ ds) (vs ++ dvs) Q E hr I.env0 (hb s us I.kIn hl) r2 h) fun r s' hq => ?_)
  cases r with
  | error e => exact hx pins σ H s e s' I hq
  | ok fl =>
    cases fl with
    | ret u => exact I.after hq
    | next => exact False.elim hq
    | brk => exact False.elim hq
    | cont => exact False.elim hq
theorem pn_call (F : Fnn X.prog X.w X.K X.mg X.base CX k f fd ps sp) (hr : GRoom k X.A) (hg : Gl X x) (hm : X.mg x = some (.ref f)) (hk : PySem.W.keepIn X.K (.ref f) = true) (hb : Binds X.K fd ps ds) (hd : Vals dvs ds) (hx : Passes CX X E)
    (ha : PA X (e :: es) t) (hdb : (x == ("__debug__" : Str)) = false := by decide) (he : starEach (e :: es) X.env = (false, eval e X.env) :: starEach es X.env := by rfl) (hpl : (backTo pos (starEach es X.env)).any (·.1) = false := by rfl) :
    PE X (.Call (.Name x p) (e :: es) [] pos) (tCall sp dvs E t) := by
  refine ⟨fun pins s σ H Q I h => ?_⟩
  refine wpAny_Call_Name_kw (ld_glob I hg hm ?_ hdb)
  refine PySem.W.callWith_K (h₀ := X.base) I.ok.mod.kin hk (thn (ha.run pos pins s σ H _ I h) fun us s1 ⟨vs, H1, I1, r, q⟩ => ⟨I1.kIn, ?_⟩) he hpl
  exact run_fnn F hr hb hd hx I1 r q
end
theorem fnn_of {CX : CXT} {P : Program} {w : World} {K : PySem.W.Frag} {mg : Str → Option Value} {base : Heap} {k : Nat} {f : Addr} {name qual : Str} {params : Arguments} {body : List Stmt} {scope : Scope} {dV kV doc pm cdv ct oc : Value} {an od : Option Addr}
    {osl : Array (Option Value)} {N ps : List Str} {sp : Sp} (hns : BaseOk K mg base) (htr : P.given.tree = none) (lk : K.lookup f = some ⟨oc, od, .func (PySem.W.fnOf name qual params body scope dV kV doc pm an cdv ct), osl⟩) (hcd : PySem.W.codeIn K cdv qual = true) (S : FnScope N ps scope)
    (len : ∀ vs H Q E, sp vs H Q E → vs.length = ps.length)
    (hbody : ∀ (A : Around) (outer : List Env) (s : Shared) (H : Hp) (vs : List V) (Q : VK) (E : XK), Amb k (cxOf CX P w K mg base N qual scope f cdv A outer s H E) → sp vs H Q E →
      ∃ t, PSs (cxOf CX P w K mg base N qual scope f cdv A outer s H E) body t ∧ t { nx := fun _ H' => Q .non H', rt := Q } (L2.start N vs) H) :
    Fnn P w K mg base CX (k + 1) f (PySem.W.fnOf name qual params body scope dV kV doc pm an cdv ct) ps sp := by
  refine ⟨len, fun A outer s H args us vs Q E hr e0 hb r hsp => ?_⟩
  have hl := len _ _ _ _ hsp
  have KX : K.In s.heap := e0.mod.kin.keeps fun b o e => (e0.bs b o e).1
  have lim : s.heap.NoLimit := e0.mod.nolimit.keeps fun b o e => (e0.bs b o e).1
  have hkind : ∀ y ∈ ps.zip us, scope.names.lookup y.1 = some .local ∨ (scope.names.lookup y.1 = some .cell ∧ ((cellsFrom (s.heap.objs.size + 1) scope.names []).lookup y.1).isSome = true) := fun ⟨n, v⟩ hy => by
    rcases S.par n (List.of_mem_zip hy).1 with q | q
    · exact .inl q
    · exact .inr ⟨q, PySem.W.cellsFrom_some _ _ _ (.inl q)⟩
  refine codeAny_call_function hr.room.depth (KX _ _ lk) rfl S.co S.gen rfl (PySem.W.codeRec_of KX hcd) (hb _ _ _ _ ?_)
  refine wpAny_newFunctionEnv_cells S.kind hkind fun env he s1 x => ?_
  subst he
  refine ⟨lim.keeps x.toInCall.keep, codeAny_func ?_⟩
  have amb : Amb k (cxOf CX P w K mg base N qual scope f cdv A outer s H E) := ⟨hr.deeper _, fun s' ks =>
    PySem.PylongRoom.of (e0.mod.nolimit.keeps ks) (by have := hr.dp; show A.depth + 1 + Builtin.pylongFrames < recursionLimit; have e : Builtin.pylongFrames = 100 := rfl; omega)
      (PySem.SeerAt.of (hns.seer.keeps ks) htr (PySem.Around.frames_deeper e0.frames) S.gen S.co rfl rfl), hns.tb⟩
  obtain ⟨t, ht, hq⟩ := hbody A outer s H vs Q E amb hsp
  have I : Inv (cxOf CX P w K mg base N qual scope f cdv A outer s H E) [] (L2.start N vs) H s1 := inv_start S hr.room.hd e0 hl r x
  refine wpAny_mono (ht.run [] s1 (L2.start N vs) H _ I hq) (fun fl s' hs => ?_) fun e s' hs => hs
  have fin : ∀ {σ' : L2.St} {H' : Hp} {v : V} {u : Value}, Inv (cxOf CX P w K mg base N qual scope f cdv A outer s H E) [] σ' H' s' → RelV v u → Q v H' → CE outer P w H s Q u s' :=
    fun {σ' H' v u} J rv q => ⟨v, H', J.os, J.bare, J.base, J.hok, rv, q⟩
  cases fl with
  | ret u =>
    obtain ⟨v, σ', H', J, rv, q⟩ := hs
    exact fin J rv q
  | next =>
    obtain ⟨σ', H', J, q⟩ := hs
    exact fin (v := V.non) (u := Value.none) J rfl q
  | brk =>
    obtain ⟨_, _, _, q⟩ := hs
    exact False.elim q
  | cont =>
    obtain ⟨_, _, _, q⟩ := hs
    exact False.elim q

abbrev FSpec := List Vl → List Cell → (Vl → List Cell → Prop) → Prop
def liftSp (K : PySem.W.Frag) (sp : FSpec) : Sp := fun vs H Q _ => ∃ W F A st args Qd, Good K W F A ⟨[], st⟩ [] H ∧ RepVs K F A args vs ∧ sp args st Qd ∧
  ∀ F' A' st' H' r u, Same F F' → A <+: A' → Good K W F' A' ⟨[], st'⟩ [] H' → RepV K F' A' r u → Qd r st' → Q u H'
section
variable {K : PySem.W.Frag} {W F F' : Hp} {A A' : List Addr} {m : M} {σ : L2.St} {H H' : Hp}
theorem Good.bare (G : Good K W F A m σ H) : Good K W F A ⟨[], m.st⟩ [] H := ⟨G.ext, G.hid, G.dj, rfl, fun i v e => by simp at e, G.len, G.st, G.nd, G.tb⟩
theorem Good.back {st' : List Cell} (G : Good K W F A m σ H) (s : Same F F') (p : A <+: A') (G' : Good K W F' A' ⟨[], st'⟩ [] H') : Good K W F' A' ⟨m.sl, st'⟩ σ H' :=
  ⟨G'.ext, G'.hid, G'.dj, G.slen, fun i v e => let ⟨u, h1, h2⟩ := G.sl i v e; ⟨u, h1, RepV.mono s p h2⟩, G'.len, G'.st, G'.nd, G'.tb⟩
theorem Good.take (G : Good K W F A m σ H) (n : Nat) : Good K W F (A.take n) ⟨[], m.st.take n⟩ [] H := by
  have q : ∀ k c, (m.st.take n)[k]? = some c → k < n ∧ m.st[k]? = some c := fun k c e => by
    rw [List.getElem?_take] at e
    by_cases hk : k < n
    · rw [if_pos hk] at e
      exact ⟨hk, e⟩
    · rw [if_neg hk] at e
      cases e
  have ra : ∀ k, k < n → (A.take n)[k]? = A[k]? := fun k hk => by rw [List.getElem?_take, if_pos hk]
  refine ⟨G.ext, G.hid, G.dj, rfl, fun i v e => by simp at e, by simp [G.len], fun k xs e => ?_, fun j k xs ys a e1 e2 h1 h2 => ?_, G.tb⟩
  · obtain ⟨hk, e'⟩ := q k _ e
    obtain ⟨a, vs, p1, p2⟩ := G.st k xs e'
    exact ⟨a, vs, (ra k hk).trans p1, p2⟩
  · obtain ⟨hj, e1'⟩ := q j _ e1
    obtain ⟨hk, e2'⟩ := q k _ e2
    exact G.nd j k xs ys a e1' e2' ((ra j hj).symm.trans h1) ((ra k hk).symm.trans h2)
theorem repVs_slots {args : List Vl} {vs : List V} (r : RepVs K F A args vs) (n : Nat) : ∀ (i : Nat) (v : Vl), (args.map some ++ List.replicate n none)[i]? = some (some v) → ∃ u : V, (vs.map some ++ List.replicate n (none : Option V))[i]? = some (some u) ∧ RepV K F A v u := by
  induction args generalizing vs with
  | nil =>
    intro i v e
    simp only [List.map_nil, List.nil_append, List.getElem?_replicate] at e
    split at e <;> cases e
  | cons a r' ih =>
    obtain ⟨u, us, rfl, h1, h2⟩ := r
    intro i v e
    cases i with
    | zero =>
      cases e
      exact ⟨u, rfl, h1⟩
    | succ j => exact ih h2 j v e
def retD (kp : Bool) (n : Nat) (Qd : Vl → List Cell → Prop) : Vl → M → Prop := fun v m => match v with
  | .d x => Qd (.d x) (m.st.take n)
  | .c k => if k < n then Qd (.c k) (m.st.take n) else onC m.st k fun xs => if kp = true then Qd (.c n) (m.st.take n ++ [.lst xs]) else Qd (.d (.lst xs)) (m.st.take n)
def endsOf (kp : Bool) (n : Nat) (Qd : Vl → List Cell → Prop) : DEnds := ⟨retD kp n Qd (.d .non), retD kp n Qd, fun _ => False, fun _ => False⟩
def startM (N : Nat) (args : List Vl) (st : List Cell) : M := ⟨args.map some ++ List.replicate (N - args.length) none, st⟩
theorem pre_take {A0 A' : List Addr} (p : A0 <+: A') : A'.take A0.length = A0 := by
  obtain ⟨t, rfl⟩ := p
  simp
theorem retD_ok {kp : Bool} {A0 : List Addr} {F0 : Hp} {n : Nat} {Qd : Vl → List Cell → Prop} {Q : VK} {v : Vl} {u : V} (hn : A0.length = n) (sF : Same F0 F) (p : A0 <+: A) (G : Good K W F A m σ H) (r : RepV K F A v u) (q : retD kp n Qd v m)
    (c : ∀ F' A' st' H' r u, Same F0 F' → A0 <+: A' → Good K W F' A' ⟨[], st'⟩ [] H' → RepV K F' A' r u → Qd r st' → Q u H') : Q u H := by
  have eA : A.take n = A0 := by rw [← hn]; exact pre_take p
  have G1 := G.take n
  rw [eA] at G1
  cases v with
  | d x => exact c F A0 _ H (.d x) u sF (pre_refl _) G1 r q
  | c k =>
    obtain ⟨a, ha, rfl⟩ := r
    have q' : if k < n then Qd (.c k) (m.st.take n) else onC m.st k fun xs => if kp = true then Qd (.c n) (m.st.take n ++ [.lst xs]) else Qd (.d (.lst xs)) (m.st.take n) := q
    by_cases hk : k < n
    · rw [if_pos hk] at q'
      refine c F A0 _ H (.c k) _ sF (pre_refl _) G1 ⟨a, ?_, rfl⟩ q'
      rw [← eA, List.getElem?_take, if_pos hk]
      exact ha
    · rw [if_neg hk] at q'
      obtain ⟨xs, e, q'⟩ := onC_elim q'
      · obtain ⟨a', vs, h1, h2, h3, h4, h5⟩ := G.st k xs e
        rw [ha] at h1
        cases h1
        have old : ∀ (j : Nat) (ys : List Dt) (b : Addr), (m.st.take n)[j]? = some (Cell.lst ys) → A0[j]? = some b → b ≠ a := fun j ys b e1 e2 z => by
          rw [List.getElem?_take] at e1
          by_cases hj : j < n
          · rw [if_pos hj] at e1
            have e3 : A[j]? = some b := by
              rw [← eA, List.getElem?_take, if_pos hj] at e2
              exact e2
            have := G.nd j k ys xs a e1 e (by rw [← z]; exact e3) ha
            omega
          · rw [if_neg hj] at e1
            cases e1
        have nlen : (m.st.take n).length = n := by rw [← G1.len]; exact hn
        split at q'
        · -- the caller's own
          refine c F (A0 ++ [a]) _ H (.c n) _ sF ⟨[a], rfl⟩ ?_ ⟨a, ?_, rfl⟩ q'
          · have sp : ∀ j c, (m.st.take n ++ [Cell.lst xs])[j]? = some c → (j < n ∧ (m.st.take n)[j]? = some c) ∨ (j = n ∧ c = .lst xs) := fun j c e => by
              by_cases hj : j < n
              · exact .inl ⟨hj, by rw [List.getElem?_append_left (by rw [nlen]; exact hj)] at e; exact e⟩
              · have hl := (List.getElem?_eq_some_iff.mp e).1
                rw [List.length_append, nlen, List.length_singleton] at hl
                have ej : j = n := by omega
                subst ej
                rw [List.getElem?_append_right (by rw [nlen]; exact Nat.le_refl _), nlen, Nat.sub_self] at e
                exact .inr ⟨rfl, (Option.some.inj e).symm⟩
            have aold : ∀ j, j < n → (A0 ++ [a])[j]? = A0[j]? := fun j hj => List.getElem?_append_left (by rw [hn]; exact hj)
            have anew : (A0 ++ [a])[n]? = some a := by rw [← hn]; simp
            refine ⟨G.ext, G.hid, G.dj, rfl, fun i v e => by simp at e, by rw [List.length_append, List.length_append, nlen, hn]; rfl, fun j ys e => ?_, fun i j ys zs b e1 e2 p1 p2 => ?_, G.tb⟩
            · rcases sp j _ e with ⟨hj, e'⟩ | ⟨rfl, ec⟩
              · obtain ⟨b, ws, q1, q2⟩ := G1.st j ys e'
                exact ⟨b, ws, (aold j hj).trans q1, q2⟩
              · cases ec
                exact ⟨a, vs, anew, h2, h3, h4, h5⟩
            · rcases sp i _ e1 with ⟨hi, e1'⟩ | ⟨rfl, _⟩
              · rcases sp j _ e2 with ⟨hj, e2'⟩ | ⟨rfl, _⟩
                · exact G1.nd i j ys zs b e1' e2' ((aold i hi).symm.trans p1) ((aold j hj).symm.trans p2)
                · rw [anew] at p2
                  cases p2
                  exact (old i ys _ e1' ((aold i hi).symm.trans p1) rfl).elim
              · rcases sp j _ e2 with ⟨hj, e2'⟩ | ⟨rfl, _⟩
                · rw [anew] at p1
                  cases p1
                  exact (old j zs _ e2' ((aold j hj).symm.trans p2) rfl).elim
                · rfl
          · rw [← hn]
            simp
        · -- plain data
          have s2 : Same F (upd F a (.lst vs)) := same_upd h4
          refine c (upd F a (.lst vs)) A0 _ H (.d (.lst xs)) _ (sF.trans s2) (pre_refl _) ⟨fun b x z => ?_, G.hid, fun b x z => by rw [upd_ne (fun y => by rw [y, h5] at z; cases z)]; exact G.dj b x z, rfl, fun i v e => by simp at e, G1.len, fun j ys e' => ?_, G1.nd, fun q hq => ⟨(G.tb q hq).1, by rw [upd_ne (tab_ne (G.tb q hq).1 h2)]; exact (G.tb q hq).2.1, (G.tb q hq).2.2⟩⟩ ?_ q'
          · by_cases hb : b = a
            · subst hb
              rw [upd_same] at z
              cases z
              exact h2
            · rw [upd_ne hb] at z
              exact G.ext _ _ z
          · obtain ⟨b, ws, q1, q2, q3, q4⟩ := G1.st j ys e'
            exact ⟨b, ws, q1, q2, Reps.mono s2 q3, by rw [upd_ne (old j ys b e' q1)]; exact q4.1, q4.2⟩
          · show Rep K _ (.lst xs) _
            simp only [Rep]
            exact ⟨a, vs, rfl, Rd.of upd_same, Reps.mono s2 h3⟩
end

def dCall (sp : FSpec) (dargs : List Vl) (ts : DA) : DE := fun m Q => ts m fun vs m1 => sp (vs ++ dargs) m1.st fun r st' => Q r ⟨m1.sl, st'⟩
theorem repVs_app {K : PySem.W.Frag} {F : Hp} {A : List Addr} : ∀ {x y : List Vl} {u v : List V}, RepVs K F A x u → RepVs K F A y v → RepVs K F A (x ++ y) (u ++ v)
  | [], y, u, v, h, h' => by
    have e : u = [] := h
    rw [e]
    exact h'
  | a :: x, y, u, v, h, h' => by
    obtain ⟨u0, r, rfl, h1, h2⟩ := h
    exact ⟨u0, r ++ v, rfl, h1, repVs_app h2 h'⟩
theorem lift_call {K : PySem.W.Frag} {sp : FSpec} {dargs : List Vl} {dvs : List V} {ts : DA} {E : XK} (hd : ∀ F A, RepVs K F A dargs dvs) {σ : L2.St} {H : Hp} {Q : VK} (h : lift K (dCall sp dargs ts) σ H Q) : tCall (liftSp K sp) dvs E (liftA K ts) σ H Q := by
  obtain ⟨W, F, A, m, Qd, G, h, c⟩ := h
  refine ⟨W, F, A, m, _, G, h, fun F1 A1 vs m1 H1 s1 p1 G1 q1 us r1 => ⟨W, F1, A1, m1.st, vs ++ dargs, _, G1.bare, repVs_app r1 (hd F1 A1), q1, fun F2 A2 st2 H2 r u s2 p2 G2 r2 q2 => ?_⟩⟩
  exact c F2 A2 r _ H2 (s1.trans s2) (pre_trans p1 p2) (G1.back s2 p2 G2) q2 u r2
structure FnAt (X : Cx) (x : Str) (k : Nat) (sp : FSpec) (dargs : List Vl) : Prop where
  nd : (x == ("__debug__" : Str)) = false
  ex : ∃ (f : Addr) (fd : FuncData) (ps : List Str) (ds : List Value) (dvs : List V), Fnn X.prog X.w X.K X.mg X.base CX0 k f fd ps (liftSp X.K sp) ∧ X.mg x = some (.ref f) ∧ PySem.W.keepIn X.K (.ref f) = true ∧ Binds X.K fd ps ds ∧ Vals dvs ds ∧ ∀ F A, RepVs X.K F A dargs dvs
section
variable {X : Cx} {k : Nat} {x : Str} {p pos : Pos} {e : Expr} {es : List Expr} {ts : DA} {sp : FSpec} {dargs : List Vl}
theorem je_call (F : FnAt X x k sp dargs) (hr : GRoom k X.A) (hg : Gl X x) (ha : JA X (e :: es) ts) (he : starEach (e :: es) X.env = (false, eval e X.env) :: starEach es X.env := by rfl) (hpl : (backTo pos (starEach es X.env)).any (·.1) = false := by rfl) :
    JE X (.Call (.Name x p) (e :: es) [] pos) (dCall sp dargs ts) := by
  obtain ⟨nd, f, fd, ps, ds, dvs, F, hm, hk, hb, hd, hda⟩ := F
  exact (pn_call F hr hg hm hk hb hd pass0 ha nd he hpl).imp fun _ _ _ h => lift_call hda h
end
end RT

set_option maxRecDepth 100000
set_option maxHeartbeats 4000000
namespace RT
open PySem PySem.Spec PyProof.Rows L2

inductive Tgt where
  | nm (i : Nat) | tp (is : List Nat)
def gNames : List Nat → TGs
  | [] => gNil
  | i :: r => gCons (gName i) (gNames r)
def tgH (K : PySem.W.Frag) : Tgt → TG
  | .nm i => gName i
  | .tp is => gTup K is.length (gNames is)
def setsD : List Nat → List Dt → List (Option Vl) → List (Option Vl)
  | i :: is, x :: xs, sl => setsD is xs (sl.set i (some (.d x)))
  | _, _, sl => sl
def setsV : List Nat → List V → L2.St → L2.St
  | i :: is, x :: xs, σ => setsV is xs (σ.set i (some x))
  | _, _, σ => σ
def tgD : Tgt → Vl → M → (M → Prop) → Prop
  | .nm i, v, m, Q => Q ⟨m.sl.set i (some v), m.st⟩
  | .tp is, v, m, Q => match v with
    | .d (.tup xs) => xs.length = is.length ∧ Q ⟨setsD is xs m.sl, m.st⟩
    | _ => False
def tgSlots : Tgt → List Nat
  | .nm i => [i]
  | .tp is => is
section
variable {K : PySem.W.Frag} {W F F' : Hp} {A A' : List Addr} {m : M} {σ : L2.St} {H H' : Hp}
theorem Good.sets : ∀ {is : List Nat} {xs : List Dt} {vs : List V} {m : M} {σ : L2.St}, Good K W F A m σ H → Reps K F xs vs → Good K W F A ⟨setsD is xs m.sl, m.st⟩ (setsV is vs σ) H
  | [], _, _, _, _, G, _ => by
    unfold setsD setsV
    exact G
  | i :: is, [], vs, m, σ, G, r => by
    have e : vs = [] := by simpa only [Reps] using r
    rw [e]
    exact G
  | i :: is, x :: xs, vs, m, σ, G, r => by
    have e : ∃ v r', vs = v :: r' ∧ Rep K F x v ∧ Reps K F xs r' := by simpa only [Reps] using r
    obtain ⟨v, r', rfl, h1, h2⟩ := e
    have G1 := G.store (i := i) (v := .d x) (u := v) h1
    exact Good.sets (is := is) G1 h2
theorem gNames_ok {Q : L2.St → Hp → Prop} : ∀ {is : List Nat} {vs : List V} {σ : L2.St}, vs.length = is.length → Q (setsV is vs σ) H → gNames is vs σ H Q
  | [], [], _, _, q => ⟨rfl, q⟩
  | i :: is, v :: vs, σ, hl, q => ⟨v, vs, rfl, gNames_ok (is := is) (by simpa using hl) q⟩
  | [], _ :: _, _, hl, _ => by simp at hl
  | _ :: _, [], _, hl, _ => by simp at hl
theorem tg_ok {t : Tgt} {v : Vl} {u : V} {Qd : M → Prop} {Q : L2.St → Hp → Prop} (G : Good K W F A m σ H) (r : RepV K F A v u) (q : tgD t v m Qd)
    (c : ∀ m' σ', Good K W F A m' σ' H → (∀ vs : List Nat, (∀ i ∈ tgSlots t, i ∈ vs) → wipe σ' vs = wipe σ vs) → Qd m' → Q σ' H) : tgH K t u σ H Q := by
  have w1 : ∀ (vs : List Nat) (i : Nat) (o : Option V) (σ : L2.St), i ∈ vs → wipe (σ.set i o) vs = wipe σ vs := by
    intro vs
    induction vs with
    | nil =>
      intro i o σ h
      cases h
    | cons v vs ih =>
      intro i o σ h
      unfold wipe
      by_cases hv : v = i
      · subst hv
        by_cases hm : v ∈ vs
        · rw [ih v o σ hm]
        · have w2 : ∀ (vs : List Nat) (σ : L2.St), v ∉ vs → (wipe (σ.set v o) vs) = (wipe σ vs).set v o := by
            intro vs
            induction vs with
            | nil =>
              intro σ _
              rfl
            | cons z vs ih =>
              intro σ hz
              unfold wipe
              rw [ih σ (fun q => hz (List.mem_cons_of_mem _ q)), List.set_comm]
              intro e
              exact hz (by rw [e]; exact List.mem_cons_self)
          rw [w2 vs σ hm, List.set_set]
      · have hm : i ∈ vs := by
          rcases List.mem_cons.mp h with z | z
          · exact absurd z.symm hv
          · exact z
        rw [ih i o σ hm]
  cases t with
  | nm i => exact c _ _ (G.store r) (fun vs hv => w1 vs i _ σ (hv i (by unfold tgSlots; exact List.mem_singleton.mpr rfl))) q
  | tp is =>
    cases v with
    | c k => exact (show False from q).elim
    | d x =>
      cases x with
      | tup xs =>
        obtain ⟨hl, q⟩ : xs.length = is.length ∧ Qd ⟨setsD is xs m.sl, m.st⟩ := q
        have r' : Rep K F (.tup xs) u := r
        simp only [Rep] at r'
        obtain ⟨a, vs, rfl, hs, rs⟩ := r'
        have hlv : vs.length = is.length := by rw [← rs.length]; exact hl
        refine ⟨a, vs, rfl, seqT_mono G.ext hs, hlv, gNames_ok hlv (c _ _ (G.sets rs) (fun ws hw => ?_) q)⟩
        have go : ∀ (is : List Nat) (vs : List V) (σ : L2.St), (∀ i ∈ is, i ∈ ws) → wipe (setsV is vs σ) ws = wipe σ ws := by
          intro is
          induction is with
          | nil =>
            intro vs σ _
            cases vs <;> rfl
          | cons i is ih =>
            intro vs σ hi
            cases vs with
            | nil => rfl
            | cons v vs =>
              show wipe (setsV is vs (σ.set i (some v))) ws = wipe σ ws
              rw [ih vs _ (fun j hj => hi j (List.mem_cons_of_mem _ hj)), w1 ws i _ σ (hi i List.mem_cons_self)]
        exact go is vs σ hw
      | _ => exact (show False from q).elim
end
section
variable {X : Cx}
theorem jg_of {e : Expr} {t : Tgt} {g : TG} (h : PG X e g) (e1 : g = tgH X.K t := by rfl) : PG X e (tgH X.K t) := e1 ▸ h
end

def lockOk (lk : Option Nat) (xs : List Dt) (m : M) : Prop := match lk with
  | none => True
  | some k => m.st[k]? = some (.lst xs)
abbrev DI := M → (List Dt → Option Nat → M → Prop) → Prop
structure Walks (K : PySem.W.Frag) (J : It) (F : Hp) (A : List Addr) (xs : List Dt) (lk : Option Nat) : Prop where
  go : ∀ W F' A' m σ H i x, Same F F' → A <+: A' → Good K W F' A' m σ H → lockOk lk xs m → xs[i]? = some x → J.go i H ∧ ∀ v H', J.yld i H v H' → ∃ F2, Same F' F2 ∧ Good K W F2 A' m σ H' ∧ Rep K F2 x v
  stop : ∀ W F' A' m σ H, Same F F' → A <+: A' → Good K W F' A' m σ H → lockOk lk xs m → J.stop xs.length H
def liftI (K : PySem.W.Frag) (t : DI) : TI := fun σ H R => ∃ W F A m Qd, Good K W F A m σ H ∧ t m Qd ∧
  ∀ F' A' xs lk m' H', Same F F' → A <+: A' → Good K W F' A' m' σ H' → Qd xs lk m' → ∀ J, Walks K J F' A' xs lk → R J H'
abbrev JI (X : Cx) (tg iter : Expr) (t : DI) : Prop := PI X tg iter (liftI X.K t)
theorem _root_.L2.PI.imp {X : Cx} {tg e : Expr} {t t' : TI} (h : PI X tg e t) (f : ∀ σ H Q, t' σ H Q → t σ H Q) : PI X tg e t' := ⟨fun pins s σ H Q I q => h.run pins s σ H Q I (f _ _ _ q)⟩
section
variable {K : PySem.W.Frag}
theorem walks_list {F : Hp} {A : List Addr} {a : Addr} {vs : List V} {xs : List Dt} (s : SqL K F a vs) (r : Reps K F xs vs) : Walks K (Itl K a) F A xs none where
  go := fun W F' A' m σ H i x sF p G _ hi => by
    obtain ⟨v, hv, rv⟩ := r.get hi
    have sq : SqL K H a vs := (sF.trans G.ext).seq s
    refine ⟨⟨vs, v, sq, hv⟩, fun u H' y => ?_⟩
    obtain ⟨rfl, y⟩ := y
    have e := (y vs sq).symm.trans hv
    cases e
    exact ⟨F', Same.refl _, G, Rep.mono sF rv⟩
  stop := fun W F' A' m σ H sF p G _ => ⟨vs, (sF.trans G.ext).seq s, by rw [r.length]; exact Nat.le_refl _⟩
theorem walks_tup {F : Hp} {A : List Addr} {a : Addr} {vs : List V} {xs : List Dt} (s : SqT K F a vs) (r : Reps K F xs vs) : Walks K (Itt K a) F A xs none where
  go := fun W F' A' m σ H i x sF p G _ hi => by
    obtain ⟨v, hv, rv⟩ := r.get hi
    have sq : SqT K H a vs := seqT_mono (sF.trans G.ext) s
    refine ⟨⟨vs, v, sq, hv⟩, fun u H' y => ?_⟩
    obtain ⟨rfl, y⟩ := y
    have e := (y vs sq).symm.trans hv
    cases e
    exact ⟨F', Same.refl _, G, Rep.mono sF rv⟩
  stop := fun W F' A' m σ H sF p G _ => ⟨vs, seqT_mono (sF.trans G.ext) s, by rw [r.length]; exact Nat.le_refl _⟩
theorem walks_own {F : Hp} {A : List Addr} {a : Addr} {k : Nat} {xs : List Dt} (ha : A[k]? = some a) : Walks K (Itl K a) F A xs (some k) := by
  have at_ : ∀ {W F' A' m σ H}, A <+: A' → Good K W F' A' m σ H → lockOk (some k) xs m → ∃ vs, H a = some (.lst vs) ∧ Reps K F' xs vs := fun {W F' A' m σ H} p G l => by
    obtain ⟨a', vs, h1, h2, h3, _⟩ := G.st k xs l
    obtain ⟨t, rfl⟩ := p
    have hk := (List.getElem?_eq_some_iff.mp ha).1
    rw [List.getElem?_append_left hk, ha] at h1
    cases h1
    exact ⟨vs, h2, h3⟩
  refine ⟨fun W F' A' m σ H i x sF p G l hi => ?_, fun W F' A' m σ H sF p G l => ?_⟩
  · obtain ⟨vs, h2, r⟩ := at_ p G l
    obtain ⟨v, hv, rv⟩ := r.get hi
    refine ⟨⟨vs, v, SqL.of h2, hv⟩, fun u H' y => ?_⟩
    obtain ⟨rfl, y⟩ := y
    have e := (y vs (SqL.of h2)).symm.trans hv
    cases e
    exact ⟨F', Same.refl _, G, rv⟩
  · obtain ⟨vs, h2, r⟩ := at_ p G l
    exact ⟨vs, SqL.of h2, by rw [r.length]; exact Nat.le_refl _⟩
end

section
variable {X : Cx} {tg l : Expr} {t : DE}
def rangeD (lo : Int) : Nat → List Dt
  | 0 => []
  | n + 1 => .int lo :: rangeD (lo + 1) n
theorem rangeD_len : ∀ (n : Nat) (lo : Int), (rangeD lo n).length = n
  | 0, _ => rfl
  | n + 1, lo => by
    unfold rangeD
    rw [List.length_cons, rangeD_len n]
theorem rangeD_get : ∀ (n : Nat) (lo : Int) (i : Nat) (x : Dt), (rangeD lo n)[i]? = some x → i < n ∧ x = .int (lo + i)
  | 0, _, i, x, h => by
    unfold rangeD at h
    simp at h
  | n + 1, lo, 0, x, h => by
    unfold rangeD at h
    have e : Dt.int lo = x := Option.some.inj h
    refine ⟨Nat.succ_pos _, ?_⟩
    rw [← e]
    congr 1
    simp
  | n + 1, lo, i + 1, x, h => by
    unfold rangeD at h
    obtain ⟨h1, h2⟩ := rangeD_get n (lo + 1) i x h
    refine ⟨by omega, ?_⟩
    rw [h2]
    congr 1
    omega
theorem walks_range {K : PySem.W.Frag} {F : Hp} {A : List Addr} (lo : Int) (n : Nat) : Walks K (Itr lo n) F A (rangeD lo n) none where
  go := fun W F' A' m σ H i x sF p G _ hi => by
    obtain ⟨h1, rfl⟩ := rangeD_get n lo i x hi
    refine ⟨h1, fun u H' y => ?_⟩
    obtain ⟨rfl, rfl⟩ := y
    exact ⟨F', Same.refl _, G, rep_int⟩
  stop := fun W F' A' m σ H sF p G _ => by
    rw [rangeD_len]
    exact Nat.le_refl n
def small62 (i : Int) : Prop := -(2 ^ 62) ≤ i ∧ i < 2 ^ 62
def dRange1 (ts : DA) : DI := fun m Q => ts m fun vs m1 => match vs with
  | [.d (.int j)] => small62 j ∧ Q (rangeD 0 j.toNat) none m1
  | _ => False
def dRange2 (ts : DA) : DI := fun m Q => ts m fun vs m1 => match vs with
  | [.d (.int i), .d (.int j)] => (small62 i ∧ small62 j) ∧ Q (rangeD i (j - i).toNat) none m1
  | _ => False
variable {ts : DA}
theorem rv1 {K : PySem.W.Frag} {F : Hp} {A : List Addr} {x : Vl} {us : List V} (r : RepVs K F A [x] us) : ∃ u, us = [u] ∧ RepV K F A x u := by
  obtain ⟨u, r', rfl, h1, h2⟩ := r
  have e : r' = [] := h2
  rw [e]
  exact ⟨u, rfl, h1⟩
theorem rv2 {K : PySem.W.Frag} {F : Hp} {A : List Addr} {x y : Vl} {us : List V} (r : RepVs K F A [x, y] us) : ∃ u v, us = [u, v] ∧ RepV K F A x u ∧ RepV K F A y v := by
  obtain ⟨u, r', rfl, h1, h2⟩ := r
  obtain ⟨v, rfl, h3⟩ := rv1 h2
  exact ⟨u, v, rfl, h1, h3⟩
theorem ji_range1 {a : Expr} {p pos : Pos} (hg : Gl X "range") (hm : X.mg "range" = none) (ha : JA X [a] ts) (hs : starEach [a] X.env = [(false, eval a X.env)] := by rfl) : JI X tg (.Call (.Name "range" p) [a] [] pos) (dRange1 ts) := by
  refine (pi_range1 hg hm ha hs).imp fun σ H R hh => ?_
  obtain ⟨W, F, A, m, Qd, G, h, c⟩ := hh
  refine ⟨W, F, A, m, _, G, h, fun F1 A1 vs m1 H1 s1 p1 G1 q1 us r1 => ?_⟩
  split at q1
  · rename_i j
    obtain ⟨u, rfl, ru⟩ := rv1 r1
    have e : u = .int j := repB_int (H := H1) ru
    rw [e]
    exact ⟨j, rfl, q1.1.1, q1.1.2, c F1 A1 _ none m1 H1 s1 p1 G1 q1.2 _ (walks_range 0 j.toNat)⟩
  · exact q1.elim
theorem ji_range2 {a b : Expr} {p pos : Pos} (hg : Gl X "range") (hm : X.mg "range" = none) (ha : JA X [a, b] ts) (hs : starEach [a, b] X.env = [(false, eval a X.env), (false, eval b X.env)] := by rfl) (hs2 : starEach [b] X.env = [(false, eval b X.env)] := by rfl)
    : JI X tg (.Call (.Name "range" p) [a, b] [] pos) (dRange2 ts) := by
  refine (pi_range2 hg hm ha hs hs2).imp fun σ H R hh => ?_
  obtain ⟨W, F, A, m, Qd, G, h, c⟩ := hh
  refine ⟨W, F, A, m, _, G, h, fun F1 A1 vs m1 H1 s1 p1 G1 q1 us r1 => ?_⟩
  split at q1
  · rename_i i j
    obtain ⟨u, w, rfl, ru, rw'⟩ := rv2 r1
    have e : u = .int i := repB_int (H := H1) ru
    have e' : w = .int j := repB_int (H := H1) rw'
    rw [e, e']
    exact ⟨i, j, rfl, ⟨q1.1.1.1, q1.1.1.2, q1.1.2.1, q1.1.2.2⟩, c F1 A1 _ none m1 H1 s1 p1 G1 q1.2 _ (walks_range i (j - i).toNat)⟩
  · exact q1.elim

def enumD : Nat → List Dt → List Dt
  | _, [] => []
  | n, x :: xs => .tup [.int n, x] :: enumD (n + 1) xs
theorem tup_laid {K : PySem.W.Frag} {W F : Hp} {A : List Addr} {m : M} {σ : L2.St} {H : Hp} {T : Addr} {ds : List Dt} {vs : List V} (G : Good K W F A m σ H) (n : H T = none) (r : Reps K F ds vs) : ∃ F2, Same F F2 ∧ Good K W F2 A m σ (upd H T (.tup vs)) ∧ Rep K F2 (.tup ds) (.ref T) := by
  have s := same_upd (o := .tup vs) (G.ext.free n)
  refine ⟨upd F T (.tup vs), s, G.laid n, ?_⟩
  simp only [Rep]
  exact ⟨T, vs, rfl, SqT.of upd_same, Reps.mono s r⟩
def dEnum (ts : DA) : DI := fun m Q => ts m fun vs m1 => match vs with
  | [.d (.lst xs)] => Q (enumD 0 xs) none m1
  | _ => False
def zipD : List Dt → List Dt → List Dt
  | x :: xs, y :: ys => .tup [x, y] :: zipD xs ys
  | _, _ => []
end

def dNext : DS := fun E m => E.nx m
def dSeq (t u : DS) : DS := fun E m => t ⟨fun m1 => u E m1, E.rt, E.bk, E.ct⟩ m
def dRet (t : DE) : DS := fun E m => t m fun v m1 => E.rt v m1
def dDo (t : DE) : DS := fun E m => t m fun _ m1 => E.nx m1
def dSet (i : Nat) (t : DE) : DS := fun E m => t m fun v m1 => E.nx ⟨m1.sl.set i (some v), m1.st⟩
def dAsg (t : DE) (g : Tgt) : DS := fun E m => t m fun v m1 => tgD g v m1 E.nx
def dIfS (c : DT) (t u : DS) : DS := fun E m => c m fun b m1 => if b = true then t E m1 else u E m1
def dWhile (c : DT) (b : DS) : DS := fun E m => ∃ W : Nat → M → Prop, (∃ n, W n m) ∧ ∀ n m, W n m →
  c m fun k m1 => if k = true then b ⟨fun m2 => ∃ n', n' < n ∧ W n' m2, E.rt, E.nx, fun m2 => ∃ n', n' < n ∧ W n' m2⟩ m1 else E.nx m1
def dLoop (g : Tgt) (b : DS) (all : List Dt) (lk : Option Nat) (E : DEnds) : List Dt → M → Prop
  | [], m => lockOk lk all m ∧ E.nx m
  | x :: xs, m => lockOk lk all m ∧ tgD g (.d x) m fun m1 => b ⟨dLoop g b all lk E xs, E.rt, E.nx, dLoop g b all lk E xs⟩ m1
def dFor (di : DI) (g : Tgt) (b : DS) : DS := fun E m => di m fun xs lk m1 => dLoop g b xs lk E xs m1
section
variable {X : Cx} {st : Stmt} {rest : List Stmt} {t u : DS} {e : Expr} {te : DE} {pos : Pos}
theorem js_nil : JSs X [] dNext := pss_nil.imp fun D σ H ⟨W, F, A, m, E, G, h, c⟩ => c.nx F A m σ H (Same.refl _) (pre_refl _) G h
theorem lift_seq {D : Ends} {σ : L2.St} {H : Hp} (h : liftS X.K (dSeq t u) D σ H) : tSeq (liftS X.K t) (liftS X.K u) D σ H := by
  obtain ⟨W, F, A, m, E, G, h, c⟩ := h
  exact ⟨W, F, A, m, _, G, h, ⟨fun F1 A1 m1 σ1 H1 s1 p1 G1 q1 => ⟨W, F1, A1, m1, E, G1, q1, c.mono s1 p1⟩, c.rt, c.bk, c.ct⟩⟩
theorem js_cons (h1 : JS X st t) (h2 : JSs X rest u) : JSs X (st :: rest) (dSeq t u) := (pss_cons h1 h2).imp fun _ _ _ h => lift_seq h
theorem js_one (h1 : JS X st t) : JSs X [st] t := pss_one h1
theorem js_ret (he : JE X e te) : JS X (.Return (some e) pos) (dRet te) := by
  refine (ps_ret he).imp fun D σ H hh => ?_
  obtain ⟨W, F, A, m, E, G, h, c⟩ := hh
  exact ⟨W, F, A, m, _, G, h, fun F1 A1 v m1 H1 s1 p1 G1 q1 u r1 => c.rt F1 A1 m1 σ H1 v u s1 p1 G1 r1 q1⟩
theorem js_do (he : JE X e te) (hs : swapsWith e none pos.line X.env = pure false := by rfl) : JS X (.Expr e pos) (dDo te) := by
  refine (ps_expr he hs).imp fun D σ H hh => ?_
  obtain ⟨W, F, A, m, E, G, h, c⟩ := hh
  exact ⟨W, F, A, m, _, G, h, fun F1 A1 v m1 H1 s1 p1 G1 q1 u r1 => c.nx F1 A1 m1 σ H1 s1 p1 G1 q1⟩
theorem lift_set {i : Nat} {D : Ends} {σ : L2.St} {H : Hp} (h : liftS X.K (dSet i te) D σ H) : tAsg (lift X.K te) (gName i) D σ H := by
  obtain ⟨W, F, A, m, E, G, h, c⟩ := h
  exact ⟨W, F, A, m, _, G, h, fun F1 A1 v m1 H1 s1 p1 G1 q1 u r1 => c.nx F1 A1 _ _ H1 s1 p1 (G1.store r1) q1⟩
theorem js_set {i : Nat} {x : Str} {pos' : Pos} (hN : X.N.Nodup) (hi : X.N[i]? = some x) (hx : Loc X.env.scope x) (he : JE X e te) (hs : swapsWith e (some (.Name x pos')) pos.line X.env = pure false := by rfl) (hf : X.fn x = true ∨ X.env.scope.names.lookup x = some .local := by first | exact .inl rfl | exact .inr rfl | assumption) :
    JS X (.Assign [.Name x pos'] e pos) (dSet i te) := (ps_set hN hi hx he hs hf).imp fun _ _ _ h => lift_set h
def dPar (i j : Nat) (ts : DA) : DS := fun E m => ts m fun vs m1 => match vs with
  | [v, w] => E.nx ⟨(m1.sl.set i (some v)).set j (some w), m1.st⟩
  | _ => False
theorem js_par {i j : Nat} {x y : Str} {a b : Expr} {ts : DA} {px py pt : Pos} {kt k2 pt2} (hc : X.calm = true) (hN : X.N.Nodup) (hi : X.N[i]? = some x) (hj : X.N[j]? = some y) (hij : i ≠ j)
    (hx : X.env.scope.names.lookup x = some .local) (hy : X.env.scope.names.lookup y = some .local) (ha : JA X [a, b] ts)
    (hw : swappedStores [.Tuple [.Name x px, .Name y py] kt pt] (.Tuple [a, b] k2 pt2) X.env = pure (some [x, y]) := by rfl)
    (hs : swapsWithSole [.Tuple [.Name x px, .Name y py] kt pt] (.Tuple [a, b] k2 pt2) pos.line X.env = pure false := by rfl) :
    JS X (.Assign [.Tuple [.Name x px, .Name y py] kt pt] (.Tuple [a, b] k2 pt2) pos) (dPar i j ts) := by
  refine (ps_par hc hN hi hj hij hx hy ha hw hs).imp fun D σ H hh => ?_
  obtain ⟨W, F, A, m, E, G, h, c⟩ := hh
  refine ⟨W, F, A, m, _, G, h, fun F1 A1 vs m1 H1 s1 p1 G1 q1 us r1 => ?_⟩
  split at q1
  · rename_i v w
    obtain ⟨a1, b1, rfl, ra, rb⟩ := rv2 r1
    exact ⟨a1, b1, rfl, c.nx F1 A1 _ _ H1 s1 p1 ((G1.store ra).store rb) q1⟩
  · exact q1.elim
theorem js_if {c : Expr} {a b : List Stmt} {tc : DT} (hc : JT X c tc) (ha : JSs X a t) (hb : JSs X b u) : JS X (.If c a b pos) (dIfS tc t u) := by
  refine (ps_if hc ha hb).imp fun D σ H hh => ?_
  obtain ⟨W, F, A, m, E, G, h, c⟩ := hh
  refine ⟨W, F, A, m, _, G, h, fun F1 A1 v m1 H1 s1 p1 G1 q1 => ?_⟩
  cases v with
  | true => exact ⟨W, F1, A1, m1, E, G1, q1, c.mono s1 p1⟩
  | false => exact ⟨W, F1, A1, m1, E, G1, q1, c.mono s1 p1⟩
theorem js_while {c : Expr} {body : List Stmt} {tc : DT} {tb : DS} (hp : PassesOwn (model X.prog X.w) X.A X.env X.xe) (hc : JT X c tc) (hb : JSs X body tb) : JS X (.While c body [] pos) (dWhile tc tb) := by
  refine (ps_while hp hc hb).imp fun D σ H hh => ?_
  obtain ⟨W, F, A, m, E, G, h, c⟩ := hh
  obtain ⟨Wi, ⟨n0, w0⟩, turn⟩ := h
  refine ⟨fun n σ' H' => ∃ F' A' m', Same F F' ∧ A <+: A' ∧ Good X.K W F' A' m' σ' H' ∧ Wi n m', ⟨n0, F, A, m, Same.refl _, pre_refl _, G, w0⟩, ?_⟩
  rintro n σ1 H1 ⟨F1, A1, m1, s1, p1, G1, w1⟩
  refine ⟨W, F1, A1, m1, _, G1, turn n m1 w1, fun F2 A2 k m2 H2 s2 p2 G2 q2 => ?_⟩
  cases k with
  | false => exact c.nx F2 A2 m2 _ H2 (s1.trans s2) (p1.trans p2) G2 q2
  | true =>
    refine ⟨fun σ' H' => ∃ F' A' m', Same F F' ∧ A <+: A' ∧ Good X.K W F' A' m' σ' H' ∧ ∃ n', n' < n ∧ Wi n' m', fun σ' H' hN => ?_, ?_⟩
    · obtain ⟨F', A', m', s', p', G', n', hn, w'⟩ := hN
      exact ⟨n', hn, F', A', m', s', p', G', w'⟩
    · have c' := c.mono (s1.trans s2) (p1.trans p2)
      refine ⟨W, F2, A2, m2, _, G2, q2, ⟨fun F3 A3 m3 σ3 H3 s3 p3 G3 q3 => ⟨F3, A3, m3, (s1.trans s2).trans s3, (p1.trans p2).trans p3, G3, q3⟩, c'.rt, c'.nx, fun F3 A3 m3 σ3 H3 s3 p3 G3 q3 => ⟨F3, A3, m3, (s1.trans s2).trans s3, (p1.trans p2).trans p3, G3, q3⟩⟩⟩
theorem js_for {iter tg : Expr} {body : List Stmt} {di : DI} {g : Tgt} {tb : DS} (hp : PassesOwn (model X.prog X.w) X.A X.env X.xe) (hc : X.calm = true) (hi : JI X tg iter di) (hg : PG X tg (tgH X.K g)) (hb : JSs X body tb)
    (hs : ∀ x, foldedSetIterable iter X.env x = pure x := by intro _; rfl) : JS X (.For tg iter body [] pos) (dFor di g tb) := by
  refine (ps_for hp hc hi hg hb hs).imp fun D σ H hh => ?_
  obtain ⟨W, F, A, m, E, G, h, c⟩ := hh
  refine ⟨W, F, A, m, _, G, h, fun F1 A1 xs lk m1 H1 s1 p1 G1 q1 J w => ?_⟩
  refine ⟨fun i n σ' H' => ∃ F' A' m', Same F1 F' ∧ A1 <+: A' ∧ Good X.K W F' A' m' σ' H' ∧ i + n = xs.length ∧ dLoop g tb xs lk E (xs.drop i) m',
    ⟨xs.length, F1, A1, m1, Same.refl _, pre_refl _, G1, Nat.zero_add _, q1⟩, ?_⟩
  rintro i n σ2 H2 ⟨F2, A2, m2, s2, p2, G2, en, q2⟩
  by_cases hlt : i < xs.length
  · refine .inr ?_
    have ed : xs.drop i = xs[i] :: xs.drop (i + 1) := List.drop_eq_getElem_cons hlt
    rw [ed] at q2
    obtain ⟨hl, q2⟩ : lockOk lk xs m2 ∧ tgD g (.d xs[i]) m2 fun m1 => tb ⟨dLoop g tb xs lk E (xs.drop (i + 1)), E.rt, E.nx, dLoop g tb xs lk E (xs.drop (i + 1))⟩ m1 := q2
    obtain ⟨hgo, hy⟩ := w.go W F2 A2 m2 σ2 H2 i xs[i] s2 p2 G2 hl (List.getElem?_eq_getElem hlt)
    refine ⟨hgo, fun σ' H' => ∃ F' A' m', Same F1 F' ∧ A1 <+: A' ∧ Good X.K W F' A' m' σ' H' ∧ dLoop g tb xs lk E (xs.drop (i + 1)) m', fun σ' H' hN => ?_, fun v H3 y => ?_⟩
    · obtain ⟨F', A', m', s', p', G', q'⟩ := hN
      exact ⟨n - 1, by omega, F', A', m', s', p', G', by omega, q'⟩
    · obtain ⟨F3, s3, G3, r3⟩ := hy v H3 y
      refine tg_ok G3 (v := .d xs[i]) r3 q2 fun m' σ' G' _ q' => ?_
      have c' := c.mono (s1.trans (s2.trans s3)) (p1.trans p2)
      exact ⟨W, F3, A2, m', _, G', q', ⟨fun F4 A4 m4 σ4 H4 s4 p4 G4 q4 => ⟨F4, A4, m4, s2.trans (s3.trans s4), p2.trans p4, G4, q4⟩, c'.rt, c'.nx, fun F4 A4 m4 σ4 H4 s4 p4 G4 q4 => ⟨F4, A4, m4, s2.trans (s3.trans s4), p2.trans p4, G4, q4⟩⟩⟩
  · have e : i = xs.length := by omega
    subst e
    rw [List.drop_length] at q2
    obtain ⟨hl, q2⟩ : lockOk lk xs m2 ∧ E.nx m2 := q2
    exact .inl ⟨w.stop W F2 A2 m2 σ2 H2 s2 p2 G2 hl, c.nx F2 A2 m2 σ2 H2 (s1.trans s2) (p1.trans p2) G2 q2⟩
end
end RT

set_option maxRecDepth 100000
set_option maxHeartbeats 4000000
namespace RT
open PySem PySem.Spec PyProof.Rows L2
section
variable {X : Cx} {a b e : Expr} {es : List Expr} {ta tb t : DE} {ts : DA} {pos : Pos}

mutual
def toPy : Dt → PyData
  | .non => .none
  | .bl b => .bool b
  | .int i => .int i
  | .str s => .str s
  | .tup ds => .tuple (toPys ds)
  | .lst ds => .list (toPys ds)
def toPys : List Dt → List PyData
  | [] => []
  | d :: ds => toPy d :: toPys ds
end
mutual
theorem dp_of {K : PySem.W.Frag} {H : Hp} : ∀ {d : Dt} {v : V}, Rep K H d v → Dp K H v (toPy d)
  | .non, v, h => by
    simp only [Rep] at h
    rw [h]
    unfold toPy
    exact .non
  | .bl b, v, h => by
    simp only [Rep] at h
    rw [h]
    unfold toPy
    exact .bl b
  | .int i, v, h => by
    simp only [Rep] at h
    rw [h]
    unfold toPy
    exact .int i
  | .str s, v, h => by
    simp only [Rep] at h
    rw [h]
    unfold toPy
    exact .str s
  | .tup ds, v, h => by
    simp only [Rep] at h
    obtain ⟨a, vs, rfl, s, r⟩ := h
    unfold toPy
    exact .tup s (dps_of r)
  | .lst ds, v, h => by
    simp only [Rep] at h
    obtain ⟨a, vs, rfl, s, r⟩ := h
    unfold toPy
    exact .lst (.inl s) (dps_of r)
theorem dps_of {K : PySem.W.Frag} {H : Hp} : ∀ {ds : List Dt} {vs : List V}, Reps K H ds vs → DpAll K H vs (toPys ds)
  | [], vs, h => by
    simp only [Reps] at h
    rw [h]
    unfold toPys
    exact .nil
  | d :: ds, vs, h => by
    simp only [Reps] at h
    obtain ⟨v, r, rfl, h1, h2⟩ := h
    unfold toPys
    exact .cons (dp_of h1) (dps_of h2)
end
theorem rep_up {K : PySem.W.Frag} {F H : Hp} (s : Same F H) : ∀ {x : Dt} {u : V}, RepB K F H x u → Rep K H x u
  | .lst ds, u, h => by
    obtain ⟨a, vs, rfl, q, r⟩ := h
    simp only [Rep]
    exact ⟨a, vs, rfl, q, Reps.mono s r⟩
  | .tup ds, u, h => Rep.mono s (d := .tup ds) h
  | .non, u, h => Rep.mono s h
  | .bl _, u, h => Rep.mono s h
  | .int _, u, h => Rep.mono s h
  | .str _, u, h => Rep.mono s h
def eqD (x y : Dt) : Bool := PyData.eqv (toPy x) (toPy y)
def shD (x : Dt) : Prop := SeqAt.shaped (toPy x) = true
def rEq : DR2 := fun x y P => shD x ∧ shD y ∧ P (.bl (eqD x y))
def rNe : DR2 := fun x y P => shD x ∧ shD y ∧ P (.bl (!eqD x y))
theorem o_eq {k : Nat} (hr : GRoom k X.A) : OpD X (compareOp .Eq) rEq := ⟨_, op_eqD hr.hu, fun W F A m σ H x y u v P Q G rx ry q c =>
  ⟨_, _, dp_of (rep_up G.ext rx), dp_of (rep_up G.ext ry), q.1, q.2.1, c F H _ _ (Same.refl _) G rep_bl q.2.2⟩⟩
theorem o_ne {k : Nat} (hr : GRoom k X.A) : OpD X (compareOp .NotEq) rNe := ⟨_, op_neD hr.hu, fun W F A m σ H x y u v P Q G rx ry q c =>
  ⟨_, _, dp_of (rep_up G.ext rx), dp_of (rep_up G.ext ry), q.1, q.2.1, c F H _ _ (Same.refl _) G rep_bl q.2.2⟩⟩
def rIn (neg : Bool) : DR2 := fun x y P => match y with
  | .lst ys => shD x ∧ shD (.lst ys) ∧ P (.bl (if neg then !ys.any fun z => eqD z x else ys.any fun z => eqD z x))
  | _ => False

theorem op_catR : OpR X (binaryOp .Add) (fun x y H Q => ∃ l b xs zs, x = .ref l ∧ y = .ref b ∧ Rd H l (.lst xs) ∧ Rd H b (.lst zs) ∧ xs.length + zs.length ≤ sizeLine ∧ ∀ p, H p = none → Q (.ref p) (upd H p (.lst (xs ++ zs)))) := by
  intro pins s σ H x y v u Q I rx ry h
  obtain ⟨l, b, xs, zs, rfl, rfl, hH, hB, hz, q⟩ := h
  cases rx
  cases ry
  obtain ⟨z, its, n, r, e⟩ := hH.ok I.hok
  obtain ⟨z2, its2, n2, r2, e2⟩ := hB.ok I.hok
  refine PySem.P.add_list e e2 ?_ (by rw [List.size_toArray, List.size_toArray, ← r.length, ← r2.length]; omega)
  have ea : its.toArray ++ its2.toArray = (its ++ its2).toArray := by simp
  rw [ea]
  exact ⟨.ref _, _, I.lnew (t' := s.toks) (r.append r2) (by rw [List.length_append]; omega), rfl, q _ I.fresh⟩
def rCatT : DR2 := fun x y P => match x, y with
  | .tup xs, .tup ys => xs.length + ys.length ≤ sizeLine ∧ P (.tup (xs ++ ys))
  | _, _ => False
theorem reps_nil {K : PySem.W.Frag} {F : Hp} {ds : List Dt} {vs : List V} (r : Reps K F ds vs) (h : vs = []) : ds = [] := by
  have := r.length
  rw [h] at this
  exact List.eq_nil_of_length_eq_zero this
theorem o_catT : OpD X (binaryOp .Add) rCatT := ⟨_, op_catA, fun W F A m σ H x y u v P Q G rx ry q c => by
  unfold rCatT at q
  split at q
  · rename_i xs ys
    obtain ⟨l, vs, rfl, hl, rl⟩ := repB_tup rx
    obtain ⟨b, ws, rfl, hb, rb⟩ := repB_tup ry
    refine ⟨l, b, vs, ws, rfl, rfl, seqT_mono G.ext hl, seqT_mono G.ext hb, by rw [← rl.length, ← rb.length]; exact q.1, fun e => ?_, fun e e2 => ?_, fun _ _ p np => ?_⟩
    · have e1 := reps_nil rl e
      subst e1
      exact c F H _ _ (Same.refl _) G ry q.2
    · have e1 := reps_nil rb e2
      subst e1
      have q2 := q.2
      rw [List.append_nil] at q2
      exact c F H _ _ (Same.refl _) G rx q2
    · obtain ⟨F2, s2, G2, r2⟩ := tup_laid G np (rl.append rb)
      exact c F2 _ _ _ s2 G2 r2 q.2
  · exact q.elim⟩

def onVs (m : M) : List Vl → (List Dt → Prop) → Prop
  | [], k => k []
  | v :: r, k => onV m v fun x => onVs m r fun xs => k (x :: xs)
def RepBs (K : PySem.W.Frag) (F H : Hp) : List Dt → List V → Prop
  | [], us => us = []
  | d :: ds, us => ∃ u r, us = u :: r ∧ RepB K F H d u ∧ RepBs K F H ds r
theorem onVs_elim {K : PySem.W.Frag} {W F : Hp} {A : List Addr} {m : M} {σ : L2.St} {H : Hp} (G : Good K W F A m σ H) : ∀ {vs : List Vl} {us : List V} {k : List Dt → Prop}, RepVs K F A vs us → onVs m vs k → ∃ xs, RepBs K F H xs us ∧ k xs
  | [], us, k, r, h => by
    have e : us = [] := r
    exact ⟨[], e, h⟩
  | v :: vs, us, k, r, h => by
    obtain ⟨u, us', rfl, r1, r2⟩ := r
    obtain ⟨x, ex, h⟩ := onV_elim h
    obtain ⟨xs, rs, h⟩ := onVs_elim G r2 h
    exact ⟨x :: xs, ⟨u, us', rfl, G.view r1 ex, rs⟩, h⟩
abbrev DRB := List Dt → (Dt → Prop) → Prop
def dBi (r : DRB) (ts : DA) : DE := fun m Q => ts m fun vs m1 => onVs m1 vs fun xs => r xs fun z => Q (.d z) m1
def BiD (X : Cx) (f : Value) (r : DRB) : Prop := ∃ R, CallR X f R ∧ ∀ (W F : Hp) (A : List Addr) (m : M) (σ : L2.St) (H : Hp) (xs : List Dt) (us : List V) (P : Dt → Prop) (Q : VK), Good X.K W F A m σ H → RepBs X.K F H xs us → r xs P →
    (∀ F' H' z w, Same F F' → Good X.K W F' A m σ H' → Rep X.K F' z w → P z → Q w H') → R us H Q
theorem lift_bi {K : PySem.W.Frag} {R : List V → Hp → VK → Prop} {r : DRB} (hR : ∀ (W F : Hp) (A : List Addr) (m : M) (σ : L2.St) (H : Hp) (xs : List Dt) (us : List V) (P : Dt → Prop) (Q : VK), Good K W F A m σ H → RepBs K F H xs us → r xs P →
    (∀ F' H' z w, Same F F' → Good K W F' A m σ H' → Rep K F' z w → P z → Q w H') → R us H Q) {σ : L2.St} {H : Hp} {Q : VK} (h : lift K (dBi r ts) σ H Q) : tCB R (liftA K ts) σ H Q := by
  obtain ⟨W, F, A, m, Qd, G, h, c⟩ := h
  refine ⟨W, F, A, m, _, G, h, fun F1 A1 vs m1 H1 s1 p1 G1 q1 us r1 => ?_⟩
  obtain ⟨xs, rs, q⟩ := onVs_elim G1 r1 q1
  exact hR W F1 A1 m1 σ H1 xs us _ Q G1 rs q fun F' H' z w s' G' rz pz => c F' A1 (.d z) m1 H' (s1.trans s') p1 G' pz w rz
theorem je_bi {x : Str} {id : String} {r : DRB} {p : Pos} (hc : BiD X (.builtin id) r) (hg : Gl X x) (hm : X.mg x = none) (hv : bootBuiltins x = some (.builtin id)) (ha : JA X (e :: es) ts) (hn : x ≠ "__name__" := by decide) (hdb : (x == ("__debug__" : Str)) = false := by decide)
    (he : starEach (e :: es) X.env = (false, eval e X.env) :: starEach es X.env := by rfl) (hpl : (backTo pos (starEach es X.env)).any (·.1) = false := by rfl) : JE X (.Call (.Name x p) (e :: es) [] pos) (dBi r ts) := by
  obtain ⟨R, hC, hR⟩ := hc
  exact (pe_callB hC hg hm hv ha hn hdb he hpl).imp fun _ _ _ h => lift_bi hR h
theorem je_bty {x : Str} {T : String} {r : DRB} {p : Pos} (hc : BiD X (.type T) r) (hg : Gl X x) (hm : X.mg x = none) (hv : bootBuiltins x = some (.type T)) (ha : JA X (e :: es) ts) (hn : x ≠ "__name__" := by decide) (hdb : (x == ("__debug__" : Str)) = false := by decide)
    (he : starEach (e :: es) X.env = (false, eval e X.env) :: starEach es X.env := by rfl) (hpl : (backTo pos (starEach es X.env)).any (·.1) = false := by rfl) : JE X (.Call (.Name x p) (e :: es) [] pos) (dBi r ts) := by
  obtain ⟨R, hC, hR⟩ := hc
  exact (pe_callTy hC hg hm hv ha hn hdb he hpl).imp fun _ _ _ h => lift_bi hR h
theorem rb1 {K : PySem.W.Frag} {F H : Hp} {x : Dt} {us : List V} (r : RepBs K F H [x] us) : ∃ u, us = [u] ∧ RepB K F H x u := by
  obtain ⟨u, r', rfl, h1, h2⟩ := r
  have e : r' = [] := h2
  rw [e]
  exact ⟨u, rfl, h1⟩
def bLen : DRB := fun xs P => match xs with
  | [.lst ys] => P (.int ys.length)
  | [.tup ys] => P (.int ys.length)
  | [.str s] => s.length ≤ sizeLine ∧ P (.int s.length)
  | _ => False
theorem b_len : BiD X (.builtin "len") bLen := ⟨_, L2.call_len, fun W F A m σ H xs us P Q G rs q c => by
  unfold bLen at q
  split at q
  · obtain ⟨u, rfl, ru⟩ := rb1 rs
    obtain ⟨l, vs, rfl, hl, rl⟩ := ru
    rw [rl.length] at q
    exact ⟨_, vs.length, rfl, .inl ⟨vs, .inl hl, rfl⟩, c F H _ _ (Same.refl _) G rep_int q⟩
  · obtain ⟨u, rfl, ru⟩ := rb1 rs
    obtain ⟨l, vs, rfl, hl, rl⟩ := repB_tup ru
    rw [rl.length] at q
    exact ⟨_, vs.length, rfl, .inr ⟨vs, seqT_mono G.ext hl, rfl⟩, c F H _ _ (Same.refl _) G rep_int q⟩
  · obtain ⟨u, rfl, ru⟩ := rb1 rs
    rw [repB_str ru]
    exact ⟨_, _, rfl, ⟨q.1, rfl⟩, c F H _ _ (Same.refl _) G rep_int q.2⟩
  · exact q.elim⟩
def bAbs : DRB := fun xs P => match xs with
  | [.int i] => P (.int (if i < 0 then -i else i))
  | _ => False
theorem b_abs : BiD X (.builtin "abs") bAbs := ⟨_, L2.call_abs, fun W F A m σ H xs us P Q G rs q c => by
  unfold bAbs at q
  split at q
  · obtain ⟨u, rfl, ru⟩ := rb1 rs
    rw [repB_int ru]
    exact ⟨_, rfl, c F H _ _ (Same.refl _) G rep_int q⟩
  · exact q.elim⟩
def bInt : DRB := fun xs P => match xs with
  | [.int i] => P (.int i)
  | [.bl k] => P (.int (if k then 1 else 0))
  | _ => False
theorem b_int : BiD X (.type "int") bInt := ⟨_, L2.call_int1, fun W F A m σ H xs us P Q G rs q c => by
  unfold bInt at q
  split at q
  · obtain ⟨u, rfl, ru⟩ := rb1 rs
    rw [repB_int ru]
    exact .inl ⟨_, rfl, c F H _ _ (Same.refl _) G rep_int q⟩
  · obtain ⟨u, rfl, ru⟩ := rb1 rs
    rw [repB_bl ru]
    exact .inr ⟨_, rfl, c F H _ _ (Same.refl _) G rep_int q⟩
  · exact q.elim⟩
def bList : DRB := fun xs P => match xs with
  | [.lst ys] => P (.lst ys)
  | [.tup ys] => P (.lst ys)
  | _ => False
def bTuple : DRB := fun xs P => match xs with
  | [.lst ys] => P (.tup ys)
  | [.tup ys] => P (.tup ys)
  | _ => False
theorem lst_laid {K : PySem.W.Frag} {W F : Hp} {A : List Addr} {m : M} {σ : L2.St} {H : Hp} {T : Addr} {ds : List Dt} {vs : List V} (G : Good K W F A m σ H) (n : H T = none) (r : Reps K F ds vs) : ∃ F2, Same F F2 ∧ Good K W F2 A m σ (upd H T (.lst vs)) ∧ Rep K F2 (.lst ds) (.ref T) := by
  have s := same_upd (o := .lst vs) (G.ext.free n)
  refine ⟨upd F T (.lst vs), s, G.laid n, ?_⟩
  simp only [Rep]
  exact ⟨T, vs, rfl, Rd.of upd_same, Reps.mono s r⟩
def sumI : List Dt → Option Int
  | [] => some 0
  | .int i :: r => (sumI r).map (i + ·)
  | _ :: _ => none
def bSum : DRB := fun xs P => match xs with
  | [.lst ys] => match sumI ys with
    | some n => P (.int n)
    | none => False
  | _ => False

inductive Ty where
  | tuple | int | bool | list | str
def Ty.name : Ty → String
  | .tuple => "tuple"
  | .int => "int"
  | .bool => "bool"
  | .list => "list"
  | .str => "str"
end
end RT

set_option maxRecDepth 100000
set_option maxHeartbeats 4000000
namespace RT
open PySem PySem.Spec PyProof.Rows L2
section
variable {X : Cx} {a b e o : Expr} {es : List Expr} {ta tb t to : DE} {ts : DA} {pos : Pos}

abbrev DO := M → (Option Int → M → Prop) → Prop
theorem _root_.L2.PO.imp {X : Cx} {e : Option Expr} {t t' : TO} (h : PO X e t) (f : ∀ σ H Q, t' σ H Q → t σ H Q) : PO X e t' := ⟨fun pins s σ H Q I q => h.run pins s σ H Q I (f _ _ _ q)⟩
def dNoP : DO := fun m Q => Q none m
def dPart (t : DE) : DO := fun m Q => t m fun v m1 => match v with
  | .d (.int i) => Q (some i) m1
  | _ => False
theorem int_elim {v : Vl} {P : Int → Prop} (h : match v with
  | .d (.int i) => P i
  | _ => False) : ∃ i, v = .d (.int i) ∧ P i := by
  split at h
  · exact ⟨_, rfl, h⟩
  · exact h.elim
def cutD (xs : List Dt) (lo hi : Option Int) : List Dt := (xs.drop (HT.sIx xs.length 0 lo)).take (HT.sIx xs.length xs.length hi - HT.sIx xs.length 0 lo)
def dSl (own : Bool) (t : DE) (lo hi : DO) : DE := fun m Q => t m fun v m1 => lo m1 fun l m2 => hi m2 fun h m3 => onV m3 v fun x => match x with
  | .lst xs => if own = true then Q (.c m3.st.length) ⟨m3.sl, m3.st ++ [.lst (cutD xs l h)]⟩ else Q (.d (.lst (cutD xs l h))) m3
  | .tup xs => Q (.d (.tup (cutD xs l h))) m3
  | _ => False

abbrev MOp := List Dt → List Dt → (List Dt → Dt → Prop) → Prop
def dMeth (op : MOp) (to : DE) (ts : DA) : DE := fun m Q => to m fun v m1 => match v with
  | .c k => (∃ zs, m1.st[k]? = some (.lst zs)) ∧ ts m1 fun vs m2 => onDs vs fun ys => onC m2.st k fun xs => op xs ys fun xs' r => Q (.d r) ⟨m2.sl, m2.st.set k (.lst xs')⟩
  | _ => False
def MetD (X : Cx) (id : String) (op : MOp) : Prop := ∃ R, MtR X id R ∧ ∀ (F H : Hp) (a : Addr) (xs ys : List Dt) (vs us : List V) (P : List Dt → Dt → Prop) (Q : VK), H a = some (.lst vs) → Reps X.K F xs vs → Reps X.K F ys us → op xs ys P →
  (∀ xs' ws r u, Reps X.K F xs' ws → Rep X.K F r u → P xs' r → Q u (upd H a (.lst ws))) → R (.ref a) us H Q
theorem cell_elim {v : Vl} {P : Nat → Prop} (h : match v with
  | .c k => P k
  | _ => False) : ∃ k, v = .c k ∧ P k := by
  split at h
  · exact ⟨_, rfl, h⟩
  · exact h.elim
theorem je_meth {op : MOp} {id : String} {name : Str} {apos cpos : Pos} (slot : Slot "list" name id) (hty : typeOf (.builtin id) = pure (.type "method_descriptor")) (hm : MetD X id op) (ho : JE X o to) (ha : JA X (e :: es) ts)
    (hbase : attributeBase o name X.env (eval o X.env) = eval o X.env := by rfl)
    (hfew : ((backTo cpos (starEach (e :: es) X.env)).all (fun x => !x.1) && (backToKw cpos (keywordEach [] X.env)).all (fun x => x.1.isSome)
      && decide ((e :: es).length + ([] : List Keyword).length + (if ([] : List Keyword).isEmpty then 0 else 1) < 30)) = true := by rfl)
    (hline : (apos.endLine == cpos.line) = true := by rfl) (hs : starEach (e :: es) X.env = (false, eval e X.env) :: starEach es X.env := by rfl) (hplain : (backTo cpos (starEach es X.env)).any (·.1) = false := by rfl) :
    JE X (.Call (.Attribute o name apos) (e :: es) [] cpos) (dMeth op to ts) := by
  obtain ⟨R, hR, hv⟩ := hm
  refine (pe_bm PySem.F.plainAttrs_list slot hty hR ho ha hbase hfew hline hs hplain).imp fun σ H Q hh => ?_
  obtain ⟨W, F, A, m, Qd, G, h, c⟩ := hh
  refine ⟨W, F, A, m, _, G, h, fun F1 A1 v m1 H1 s1 p1 G1 q1 u r1 => ?_⟩
  obtain ⟨k, rfl, ⟨zs, ez⟩, q1⟩ := cell_elim q1
  obtain ⟨a, ha', rfl⟩ := r1
  obtain ⟨a', ws, h1, h2, _, _⟩ := G1.st k zs ez
  rw [ha'] at h1
  cases h1
  refine ⟨.inl ⟨rfl, _, SqL.of h2⟩, W, F1, A1, m1, _, G1, q1, fun F2 A2 vs m2 H2 s2 p2 G2 q2 us r2 => ?_⟩
  obtain ⟨ys, rfl, q3⟩ := onDs_elim q2
  obtain ⟨xs, ex, q2⟩ := onC_elim q3
  obtain ⟨a', vs', g1, g2, g3, _⟩ := G2.st k xs ex
  obtain ⟨_, hka, ek⟩ := RepV.mono (K := X.K) s2 p2 (show RepV X.K F1 A1 (.c k) (.ref a) from ⟨a, ha', rfl⟩)
  cases ek
  rw [hka] at g1
  cases g1
  exact hv F2 H2 a xs ys vs' us _ Q g2 g3 (reps_of r2) q2 fun xs' ws r u rw' ru pq => c F2 A2 (.d r) _ _ (s1.trans s2) (p1.trans p2) (G2.write ex hka rw') pq u ru
theorem reps1 {K : PySem.W.Frag} {F : Hp} {y : Dt} {us : List V} (r : Reps K F [y] us) : ∃ u, us = [u] ∧ Rep K F y u := by
  simp only [Reps] at r
  obtain ⟨u, r', rfl, h1, rfl⟩ := r
  exact ⟨u, rfl, h1⟩
def mAppend : MOp := fun xs ys P => match ys with
  | [y] => xs.length < sizeLine ∧ P (xs ++ [y]) .non
  | _ => False
theorem m_append : MetD X "list.append" mAppend := ⟨_, mt_append, fun F H a xs ys vs us P Q hH r r' q c => by
  unfold mAppend at q
  split at q
  · obtain ⟨u, rfl, ru⟩ := reps1 r'
    exact ⟨a, vs, u, rfl, rfl, hH, by rw [← r.length]; exact q.1, c _ _ .non .non (r.append (.cons ru .nil)) rep_non q.2⟩
  · exact q.elim⟩
def onJ (o : Option Nat) (P : Nat → Prop) : Prop := match o with
  | some j => P j
  | none => False
theorem onJ_elim {o : Option Nat} {P : Nat → Prop} (h : onJ o P) : ∃ j, o = some j ∧ P j := by
  cases o with
  | none => exact h.elim
  | some j => exact ⟨j, rfl, h⟩
def dSetIx (te to ti : DE) : DS := fun E m => te m fun v m1 => onD v fun d => to m1 fun w m2 => ti m2 fun u m3 => match w with
  | .c k => match u with
    | .d (.int i) => onC m3.st k fun xs => onJ (ixN xs.length i) fun j => E.nx ⟨m3.sl, m3.st.set k (.lst (xs.set j d))⟩
    | _ => False
  | _ => False
theorem js_setIx {te ti : DE} {tg : Expr} (he : JE X e te) (hg : PG X tg (gSub (lift X.K to) (lift X.K ti) rSetL))
    (hs : swapsWithSole [tg] e pos.line X.env = pure false := by rfl) (hw : swappedStores [tg] e X.env = pure none := by rfl)
    (h1 : (assignEach [tg] X.env).map (·.2) = [assign tg X.env] := by rfl) : JS X (.Assign [tg] e pos) (dSetIx te to ti) := by
  refine (ps_asg he hg hs hw h1).imp fun D σ H hh => ?_
  obtain ⟨W, F, A, m, E, G, h, c⟩ := hh
  refine ⟨W, F, A, m, _, G, h, fun F1 A1 v m1 H1 s1 p1 G1 q1 u r1 => ?_⟩
  obtain ⟨d, rfl, q1⟩ := onD_elim q1
  refine ⟨W, F1, A1, m1, _, G1, q1, fun F2 A2 w m2 H2 s2 p2 G2 q2 u2 r2 => ⟨W, F2, A2, m2, _, G2, q2, fun F3 A3 z m3 H3 s3 p3 G3 q3 u3 r3 => ?_⟩⟩
  obtain ⟨k, rfl, q3⟩ := cell_elim q3
  obtain ⟨i, rfl, q3⟩ := int_elim q3
  obtain ⟨xs, ex, q3⟩ := onC_elim q3
  obtain ⟨j, ej, q3⟩ := onJ_elim q3
  · obtain ⟨a, hka, rfl⟩ := RepV.mono s3 p3 r2
    obtain ⟨a', vs, g1, g2, g3, _⟩ := G3.st k xs ex
    rw [hka] at g1
    cases g1
    refine ⟨a, vs, i, j, rfl, repB_int (H := H3) r3, g2, by rw [← g3.length]; exact ej, ?_⟩
    have rd : Rep X.K F3 d u := Rep.mono (s2.trans s3) r1
    exact c.nx F3 A3 _ σ _ (s1.trans (s2.trans s3)) (p1.trans (p2.trans p3)) (G3.write ex hka (Reps.set rd j g3)) q3
end

def dLcGo (sl : List (Option Vl)) (slw : List (Option Vl)) (g : Tgt) (tt : DT) (te : DE) (all : List Dt) (lk : Option Nat) (K : List Dt → M → Prop) : List Dt → List Dt → List Cell → Prop
  | [], acc, st => lockOk lk all ⟨sl, st⟩ ∧ K acc ⟨sl, st⟩
  | x :: xs, acc, st => lockOk lk all ⟨sl, st⟩ ∧ tgD g (.d x) ⟨slw, st⟩ fun m1 => tt m1 fun b m2 => if b = true then te m2 fun v m3 => onD v fun d => acc.length < sizeLine ∧ dLcGo sl slw g tt te all lk K xs (acc ++ [d]) m3.st
    else dLcGo sl slw g tt te all lk K xs acc m2.st
def wipeD (sl : List (Option Vl)) : List Nat → List (Option Vl)
  | [] => sl
  | v :: vs => (wipeD sl vs).set v none
def dYes : DT := fun m Q => Q true m
def dLc (own : Bool) (di : DI) (g : Tgt) (tt : DT) (te : DE) (vs : List Nat) : DE := fun m Q => di m fun xs lk m1 => dLcGo m1.sl (wipeD m1.sl vs) g tt te xs lk (fun acc m2 => if own = true then Q (.c m2.st.length) ⟨m2.sl, m2.st ++ [.lst acc]⟩ else Q (.d (.lst acc)) m2) xs [] m1.st
theorem Good.wipe {K : PySem.W.Frag} {W F : Hp} {A : List Addr} {m : M} {σ : L2.St} {H : Hp} (G : Good K W F A m σ H) : ∀ vs : List Nat, Good K W F A ⟨wipeD m.sl vs, m.st⟩ (L2.wipe σ vs) H
  | [] => G
  | v :: vs => by
    have G1 := G.wipe vs
    refine ⟨G1.ext, G1.hid, G1.dj, by show ((wipeD m.sl vs).set v none).length = ((L2.wipe σ vs).set v none).length; rw [List.length_set, List.length_set]; exact G1.slen, fun i w e => ?_, G1.len, G1.st, G1.nd, G1.tb⟩
    have e' : ((wipeD m.sl vs).set v none)[i]? = some (some w) := e
    rw [List.getElem?_set] at e'
    show ∃ u : V, ((L2.wipe σ vs).set v none)[i]? = some (some u) ∧ _
    rw [List.getElem?_set]
    by_cases hv : v = i
    · rw [if_pos hv] at e'
      split at e' <;> cases e'
    · rw [if_neg hv] at e' ⊢
      exact G1.sl i w e'
section
variable {K : PySem.W.Frag} {W F F' : Hp} {A A' : List Addr} {m : M} {σ : L2.St} {H H' : Hp} {D : Addr} {o o' : HO}
theorem Good.hide (G : Good K W F A m σ H) (n : H D = none) : Good K (upd W D o) F A m σ (upd H D o) := by
  refine ⟨G.ext.trans (same_upd n), same_upd2 G.hid, fun b x e => ?_, G.slen, G.sl, G.len, fun k xs e => ?_, G.nd, fun q hq => ⟨tab_upd (G.tb q hq).1 n, (G.tb q hq).2.1, by rw [upd_ne (tab_some (G.tb q hq).1 n)]; exact (G.tb q hq).2.2⟩⟩
  · by_cases hb : b = D
    · rw [hb]
      exact G.ext.free n
    · rw [upd_ne hb] at e
      exact G.dj b x e
  · obtain ⟨a, vs, h1, h2, h3, h4, h5⟩ := G.st k xs e
    have ne : a ≠ D := ne_of_none h2 n
    exact ⟨a, vs, h1, by rw [upd_ne ne]; exact h2, h3, h4, by rw [upd_ne ne]; exact h5⟩
theorem Good.rehide (G : Good K (upd W D o) F A m σ H) : Good K (upd W D o') F A m σ (upd H D o') := by
  have fD : F D = none := G.dj D o upd_same
  refine ⟨fun b x e => ?_, fun b x e => ?_, fun b x e => ?_, G.slen, G.sl, G.len, fun k xs e => ?_, G.nd, fun q hq => ?_⟩
  rotate_left 4
  · obtain ⟨⟨ps, t1, ok⟩, t2, t3⟩ := G.tb q hq
    have ne : q.2 ≠ D := fun z => by
      rw [z, upd_same] at t3
      cases t3
    exact ⟨⟨ps, by rw [upd_ne ne]; exact t1, ok⟩, t2, by rw [upd_ne ne] at t3 ⊢; exact t3⟩
  · have hb : b ≠ D := fun z => by
      rw [z, fD] at e
      cases e
    rw [upd_ne hb]
    exact G.ext _ _ e
  · by_cases hb : b = D
    · subst hb
      rw [upd_same] at e ⊢
      exact e
    · rw [upd_ne hb] at e ⊢
      exact G.hid b x (by rw [upd_ne hb]; exact e)
  · by_cases hb : b = D
    · rw [hb]
      exact fD
    · rw [upd_ne hb] at e
      exact G.dj b x (by rw [upd_ne hb]; exact e)
  · obtain ⟨a, vs, h1, h2, h3, h4, h5⟩ := G.st k xs e
    have ne : a ≠ D := fun z => by
      rw [z, upd_same] at h5
      cases h5
    exact ⟨a, vs, h1, by rw [upd_ne ne]; exact h2, h3, h4, by rw [upd_ne ne] at h5 ⊢; exact h5⟩
theorem Good.show (G : Good K (upd W D (.lst us)) F A m σ H) (nW : W D = none) (r : Reps K F xs us) : Same F (upd F D (.lst us)) ∧ Good K W (upd F D (.lst us)) A m σ H ∧ Rep K (upd F D (.lst us)) (.lst xs) (.ref D) := by
  have fD : F D = none := G.dj D _ upd_same
  have s := same_upd (o := .lst us) fD
  have sW : Same W (upd W D (.lst us)) := same_upd nW
  refine ⟨s, ⟨fun b x e => ?_, sW.trans G.hid, fun b x e => ?_, G.slen, fun i v e => ?_, G.len, fun k xs e => ?_, G.nd, fun q hq => ?_⟩, ?_⟩
  rotate_left 4
  · obtain ⟨t1, t2, t3⟩ := G.tb q hq
    have ne : q.2 ≠ D := fun z => by
      rw [z, upd_same] at t3
      cases t3
    exact ⟨t1, by rw [upd_ne ne]; exact t2, by rw [upd_ne ne] at t3; exact t3⟩
  rotate_right 4
  · by_cases hb : b = D
    · subst hb
      rw [upd_same] at e
      cases e
      exact G.hid _ _ upd_same
    · rw [upd_ne hb] at e
      exact G.ext _ _ e
  · have hb : b ≠ D := fun z => by
      rw [z, nW] at e
      cases e
    rw [upd_ne hb]
    exact G.dj b x (sW _ _ e)
  · obtain ⟨u, h1, h2⟩ := G.sl i v e
    exact ⟨u, h1, RepV.mono s (pre_refl _) h2⟩
  · obtain ⟨a, vs, h1, h2, h3, h4, h5⟩ := G.st k xs e
    have ne : a ≠ D := fun z => by
      rw [z, upd_same] at h5
      cases h5
    rw [upd_ne ne] at h5
    exact ⟨a, vs, h1, h2, Reps.mono s h3, by rw [upd_ne ne]; exact h4, h5⟩
  · simp only [Rep]
    exact ⟨D, us, rfl, Rd.of upd_same, Reps.mono s r⟩
theorem Good.showOwn (G : Good K (upd W D (.lst us)) F A m σ H) (nW : W D = none) (r : Reps K F xs us) : Good K W F (A ++ [D]) ⟨m.sl, m.st ++ [.lst xs]⟩ σ H := by
  have fD : F D = none := G.dj D _ upd_same
  have hD : H D = some (.lst us) := G.hid _ _ upd_same
  have sW : Same W (upd W D (.lst us)) := same_upd nW
  have pr : A <+: A ++ [D] := ⟨[D], rfl⟩
  have at_ : ∀ k, k < m.st.length → (A ++ [D])[k]? = A[k]? := fun k hk => List.getElem?_append_left (by rw [G.len]; exact hk)
  have lst_ : (A ++ [D])[m.st.length]? = some D := by rw [← G.len]; simp
  have old : ∀ k, k < m.st.length → (m.st ++ [Cell.lst xs])[k]? = m.st[k]? := fun k hk => List.getElem?_append_left hk
  have new : ∀ k c, ¬ k < m.st.length → (m.st ++ [Cell.lst xs])[k]? = some c → k = m.st.length ∧ c = .lst xs := fun k c hk e => by
    have hk2 := (List.getElem?_eq_some_iff.mp e).1
    rw [List.length_append, List.length_singleton] at hk2
    have ek : k = m.st.length := by omega
    subst ek
    rw [List.getElem?_append_right (Nat.le_refl _), Nat.sub_self] at e
    exact ⟨rfl, (Option.some.inj e).symm⟩
  have nA : ∀ k zs, k < m.st.length → (m.st ++ [Cell.lst xs])[k]? = some (.lst zs) → (A ++ [D])[k]? = some D → False := fun k zs hk e h => by
    obtain ⟨a', _, q1, _, _, _, q5⟩ := G.st k zs ((old k hk).symm.trans e)
    rw [at_ k hk, q1] at h
    cases h
    rw [upd_same] at q5
    cases q5
  refine ⟨G.ext, sW.trans G.hid, fun b x e => G.dj b x (sW _ _ e), G.slen, fun i v e => ?_, by simp [G.len], fun k ys e => ?_, fun j k ys zs a e1 e2 h1 h2 => ?_, fun q hq => ⟨(G.tb q hq).1, (G.tb q hq).2.1, by
    have t3 := (G.tb q hq).2.2
    have ne : q.2 ≠ D := fun z => by
      rw [z, upd_same] at t3
      cases t3
    rw [upd_ne ne] at t3
    exact t3⟩⟩
  · obtain ⟨u, h1, h2⟩ := G.sl i v e
    exact ⟨u, h1, RepV.mono (Same.refl _) pr h2⟩
  · by_cases hk : k < m.st.length
    · have e' : m.st[k]? = some (.lst ys) := (old k hk).symm.trans e
      obtain ⟨a, ws, h1, h2, h3, h4, h5⟩ := G.st k ys e'
      have ne : a ≠ D := fun z => by
        rw [z, upd_same] at h5
        cases h5
      rw [upd_ne ne] at h5
      exact ⟨a, ws, (at_ k hk).trans h1, h2, h3, h4, h5⟩
    · obtain ⟨ek, ec⟩ := new k _ hk e
      subst ek
      cases ec
      exact ⟨D, us, lst_, hD, r, fD, nW⟩
  · by_cases hj : j < m.st.length
    · by_cases hk : k < m.st.length
      · exact G.nd j k ys zs a ((old j hj).symm.trans e1) ((old k hk).symm.trans e2) ((at_ j hj).symm.trans h1) ((at_ k hk).symm.trans h2)
      · obtain ⟨ek, _⟩ := new k _ hk e2
        subst ek
        rw [lst_] at h2
        cases h2
        exact (nA j ys hj e1 h1).elim
    · obtain ⟨ej, _⟩ := new j _ hj e1
      subst ej
      by_cases hk : k < m.st.length
      · rw [lst_] at h1
        cases h1
        exact (nA k zs hk e2 h2).elim
      · obtain ⟨ek, _⟩ := new k _ hk e2
        exact ek.symm
end
theorem lift_lc {K : PySem.W.Frag} (own : Bool) {di : DI} {g : Tgt} {tt : DT} {te : DE} {vs : List Nat} (hv : ∀ i ∈ tgSlots g, i ∈ vs) {σ : L2.St} {H : Hp} {Q : VK} (h : lift K (dLc own di g tt te vs) σ H Q) : tLc (liftI K di) (tgH K g) (liftT K tt) (lift K te) vs σ H Q := by
  obtain ⟨W, F, A, m, Qd, G, h, c⟩ := h
  refine ⟨W, F, A, m, _, G, h, fun F1 A1 xs lk m1 H1 s1 p1 G1 q1 J w => ?_⟩
  intro D hD
  have nW : W D = none := G1.hid.free hD
  let Kd : List Dt → M → Prop := fun acc m2 => if own = true then Qd (.c m2.st.length) ⟨m2.sl, m2.st ++ [.lst acc]⟩ else Qd (.d (.lst acc)) m2
  refine ⟨fun i n H' => ∃ F' A' st' acc us, Same F1 F' ∧ A1 <+: A' ∧ Good K (upd W D (.lst us)) F' A' ⟨m1.sl, st'⟩ σ H' ∧ Reps K F' acc us ∧ i + n = xs.length ∧ dLcGo m1.sl (wipeD m1.sl vs) g tt te xs lk Kd (xs.drop i) acc st', ⟨xs.length, F1, A1, m1.st, [], [], Same.refl _, pre_refl _, G1.hide hD, .nil, Nat.zero_add _, q1⟩, ?_⟩
  rintro i n H2 ⟨F2, A2, st2, acc, us, s2, p2, G2, r2, en, q2⟩
  by_cases hlt : i < xs.length
  · refine .inr ?_
    have ed : xs.drop i = xs[i] :: xs.drop (i + 1) := List.drop_eq_getElem_cons hlt
    rw [ed] at q2
    obtain ⟨hl, q2⟩ := q2
    obtain ⟨hgo, hy⟩ := w.go (upd W D (.lst us)) F2 A2 ⟨m1.sl, st2⟩ σ H2 i xs[i] s2 p2 G2 hl (List.getElem?_eq_getElem hlt)
    refine ⟨hgo, fun H' => ∃ F' A' st' acc us, Same F1 F' ∧ A1 <+: A' ∧ Good K (upd W D (.lst us)) F' A' ⟨m1.sl, st'⟩ σ H' ∧ Reps K F' acc us ∧ dLcGo m1.sl (wipeD m1.sl vs) g tt te xs lk Kd (xs.drop (i + 1)) acc st', fun H' hN => ?_, fun v H3 y => ?_⟩
    · obtain ⟨F', A', st', acc', us', s', p', G', r', q'⟩ := hN
      exact ⟨n - 1, by omega, F', A', st', acc', us', s', p', G', r', by omega, q'⟩
    · obtain ⟨F3, s3, G3, r3⟩ := hy v H3 y
      have G3w := G3.wipe vs
      -- from a state within the turn back to the outer names
      have outer : ∀ {F' A' σ' m' H' us'}, Same F3 F' → A2 <+: A' → Good K (upd W D (.lst us')) F' A' m' σ' H' → Good K (upd W D (.lst us')) F' A' ⟨m1.sl, m'.st⟩ σ H' := fun {F' A' σ' m' H' us'} sF pA G' =>
        ⟨G'.ext, G'.hid, G'.dj, G1.slen, fun i v e => by
          obtain ⟨u, h1, h2⟩ := G1.sl i v e
          exact ⟨u, h1, RepV.mono (s2.trans (s3.trans sF)) (p2.trans pA) h2⟩, G'.len, G'.st, G'.nd, G'.tb⟩
      refine tg_ok (m := ⟨wipeD m1.sl vs, st2⟩) (v := .d xs[i]) G3w r3 q2 fun m' σ' G' hw q' => ⟨?_, ?_⟩
      · have h1 := hw vs hv
        rw [h1]
        have idem : ∀ (l : List Nat) (vs : List Nat) (σ : L2.St), (∀ i ∈ l, i ∈ vs) → L2.wipe (L2.wipe σ vs) l = L2.wipe σ vs := by
          intro l
          induction l with
          | nil =>
            intro vs σ _
            rfl
          | cons z l ih =>
            intro vs σ hz
            show (L2.wipe (L2.wipe σ vs) l).set z none = L2.wipe σ vs
            rw [ih vs σ (fun i hi => hz i (List.mem_cons_of_mem _ hi))]
            have hm : z ∈ vs := hz z List.mem_cons_self
            apply List.ext_getElem?
            intro j
            rw [List.getElem?_set]
            by_cases hj : z = j
            · rw [if_pos hj]
              subst hj
              split
              · rename_i hl
                cases q : (L2.wipe σ vs)[z]? with
                | none =>
                  rw [List.getElem?_eq_none_iff] at q
                  omega
                | some o =>
                  cases o with
                  | none => rfl
                  | some x => exact absurd hm (wipe_some q).2
              · rename_i hl
                exact (List.getElem?_eq_none_iff.mpr (by omega)).symm
            · rw [if_neg hj]
        exact idem vs vs σ (fun _ h => h)
      · refine ⟨upd W D (.lst us), F3, A2, m', _, G', q', fun F4 A4 b m4 H4 s4 p4 G4 q4 => ?_⟩
        cases b with
        | false =>
          have q5 : dLcGo m1.sl (wipeD m1.sl vs) g tt te xs lk Kd (xs.drop (i + 1)) acc m4.st := q4
          exact ⟨F4, A4, m4.st, acc, us, s2.trans (s3.trans s4), p2.trans p4, outer s4 p4 G4, Reps.mono (s3.trans s4) r2, q5⟩
        | true =>
          refine ⟨upd W D (.lst us), F4, A4, m4, _, G4, q4, fun F5 A5 z m5 H5 s5 p5 G5 q5 u5 r5 => ?_⟩
          obtain ⟨d, rfl, hsz, q5⟩ := onD_elim q5
          have hD5 : H5 D = some (.lst us) := G5.hid _ _ upd_same
          refine ⟨us, hD5, by rw [← r2.length]; exact hsz, ?_⟩
          exact ⟨F5, A5, m5.st, acc ++ [d], us ++ [u5], s2.trans (s3.trans (s4.trans s5)), p2.trans (p4.trans p5), outer (s4.trans s5) (p4.trans p5) G5.rehide,
            (Reps.mono (s3.trans (s4.trans s5)) r2).append (.cons r5 .nil), q5⟩
  · have e : i = xs.length := by omega
    subst e
    rw [List.drop_length] at q2
    obtain ⟨hl, q2⟩ := q2
    refine .inl ⟨w.stop (upd W D (.lst us)) F2 A2 ⟨m1.sl, st2⟩ σ H2 s2 p2 G2 hl, ?_⟩
    have q3 : if own = true then Qd (.c st2.length) ⟨m1.sl, st2 ++ [.lst acc]⟩ else Qd (.d (.lst acc)) ⟨m1.sl, st2⟩ := q2
    cases own with
    | true => exact c F2 (A2 ++ [D]) _ _ _ (s1.trans s2) (p1.trans (p2.trans ⟨[D], rfl⟩)) (G2.showOwn nW r2) q3 _ ⟨D, by rw [← G2.len]; simp, rfl⟩
    | false =>
      obtain ⟨s3, G3, r3⟩ := G2.show nW r2
      exact c _ A2 _ _ _ (s1.trans (s2.trans s3)) (p1.trans p2) G3 q3 _ r3
abbrev JTs (X : Cx) (ifs : List Expr) (t : DT) : Prop := PTs X ifs (liftT X.K t)
section
variable {X : Cx} {pos : Pos}
theorem _root_.L2.PTs.imp {X : Cx} {e : List Expr} {t t' : TT} (h : PTs X e t) (f : ∀ σ H Q, t' σ H Q → t σ H Q) : PTs X e t' := ⟨fun pins s σ H Q I q => h.run pins s σ H Q I (f _ _ _ q)⟩
theorem jts_nil : JTs X [] dYes := pts_nil.imp fun σ H Q ⟨W, F, A, m, Qd, G, h, c⟩ => c F A true m H (Same.refl _) (pre_refl _) G h
theorem jts_one {e : Expr} {t : DT} (h : JT X e t) : JTs X [e] t := pts_one h
theorem je_lc (own : Bool) {elt tg iter : Expr} {ifs : List Expr} {scope : Scope} {own' : List (Str × Nat)} {di : DI} {g : Tgt} {tt : DT} {te : DE} (hv : ∀ i ∈ tgSlots g, i ∈ own'.map (·.2)) (hc : X.calm = true) (hN : X.N.Nodup) (hi : JI X tg iter di) (ok : BlkOk X.N X.env.scope scope own')
    (hg : ∀ (s : Shared) (H : Hp) (C : Addr) (cl : List (Str × Addr)) (fp : List Addr), PG (X.blk s H scope (compEnvC scope cl C X.env) fp) tg (tgH X.K g)) (ht : ∀ (s : Shared) (H : Hp) (C : Addr) (cl : List (Str × Addr)) (fp : List Addr), JTs (X.blk s H scope (compEnvC scope cl C X.env) fp) ifs tt)
    (he : ∀ (s : Shared) (H : Hp) (C : Addr) (cl : List (Str × Addr)) (fp : List Addr), JE (X.blk s H scope (compEnvC scope cl C X.env) fp) elt te) (hs : ∀ x, foldedSetIterable iter X.env x = pure x := by intro _; rfl) :
    JE X (.ListComp elt [⟨tg, iter, ifs, 0⟩] scope pos) (dLc own di g tt te (own'.map (·.2))) :=
  (pe_lc (tt := liftT X.K tt) (te := lift X.K te) hc hN hi ok hg ht he hs).imp fun _ _ _ h => lift_lc own hv h
end
end RT

set_option maxRecDepth 100000
set_option maxHeartbeats 4000000
namespace RT
open PySem PySem.Spec PyProof.Rows L2

def notLst (o : Obj) : Bool := match o.cls with
  | .type c => decide (c ≠ "list")
  | _ => true
def frN (g : Addr → Option Obj) (as : List Addr) : PySem.W.Frag := (He.frG g as).filter fun q => notLst q.2 && !He.emptyTab q.2
theorem frN_mem' {g : Addr → Option Obj} {as : List Addr} {a : Addr} {o : Obj} (h : (a, o) ∈ He.frG g as) : g a = some o := by
  unfold He.frG at h
  obtain ⟨b, _, e⟩ := List.mem_filterMap.mp h
  cases hb : g b with
  | none =>
    rw [hb] at e
    cases e
  | some u =>
    rw [hb] at e
    have e2 : (b, u) = (a, o) := Option.some.inj e
    injection e2 with e3 e4
    rw [← e3, ← e4]
    exact hb
theorem lookup_mem' {a : Addr} {o : Obj} : ∀ {l : List (Addr × Obj)}, l.lookup a = some o → (a, o) ∈ l
  | [], h => by cases h
  | (b, u) :: r, h => by
    have h2 : (match a == b with | true => some u | false => r.lookup a) = some o := h
    cases q : (a == b) with
    | true =>
      rw [q] at h2
      have e : u = o := Option.some.inj h2
      rw [beq_iff_eq.mp q, e]
      exact List.mem_cons_self
    | false =>
      rw [q] at h2
      exact List.mem_cons_of_mem _ (lookup_mem' h2)
theorem frN_mem {g : Addr → Option Obj} {as : List Addr} {a : Addr} {o : Obj} (h : (frN g as).lookup a = some o) : g a = some o ∧ notLst o = true ∧ He.emptyTab o = false := by
  obtain ⟨h1, h2⟩ := List.mem_filter.mp (lookup_mem' h)
  obtain ⟨h3, h4⟩ := Bool.and_eq_true_iff.mp h2
  exact ⟨frN_mem' h1, h3, by simpa using h4⟩
theorem frN_in {as : List Addr} {h : Heap} : (frN h.get? as).In h := fun _ _ e => (frN_mem e).1
def NoLst (K : PySem.W.Frag) : Prop := ∀ a o, K.lookup a = some o → notLst o = true
structure TabsOk (K : PySem.W.Frag) (h : Heap) : Prop where
  cd : ∀ q ∈ tabsK K, PySem.W.codeHdIn K q.1 q.2 = true
  out : ∀ q ∈ tabsK K, K.lookup q.2 = none
  get : ∀ q ∈ tabsK K, h.get? q.2 = some { cls := .none, data := .fields #[] }
def tabsBK (g : Addr → Option Obj) (K : PySem.W.Frag) : Bool := (tabsK K).all fun q => PySem.W.codeHdIn K q.1 q.2 && (match g q.2 with
  | some o => He.emptyTab o
  | none => false)
theorem tabsBK_ok {as : List Addr} {h : Heap} (e : tabsBK h.get? (frN h.get? as) = true) : TabsOk (frN h.get? as) h := by
  have key : ∀ q ∈ tabsK (frN h.get? as), PySem.W.codeHdIn (frN h.get? as) q.1 q.2 = true ∧ ∃ o, h.get? q.2 = some o ∧ He.emptyTab o = true := fun q hq => by
    obtain ⟨h3, h4⟩ := Bool.and_eq_true_iff.mp (List.all_eq_true.mp e q hq)
    refine ⟨h3, ?_⟩
    cases z : h.get? q.2 with
    | none =>
      rw [z] at h4
      cases h4
    | some o =>
      rw [z] at h4
      exact ⟨o, rfl, h4⟩
  refine ⟨fun q hq => (key q hq).1, fun q hq => ?_, fun q hq => ?_⟩
  · obtain ⟨_, o, z, t⟩ := key q hq
    cases y : (frN h.get? as).lookup q.2 with
    | none => rfl
    | some u =>
      obtain ⟨z1, _, z2⟩ := frN_mem y
      rw [z] at z1
      cases z1
      rw [t] at z2
      cases z2
  · obtain ⟨_, o, z, t⟩ := key q hq
    rw [z, He.emptyTab_eq t]
abbrev AlR : Type := Bool × He.AlD

theorem fn_dtD {P : Program} {w : World} {K : PySem.W.Frag} {mg : Str → Option Value} {base : Heap} {x qual : Str} {params : Arguments} {body : List Stmt} {scope : Scope} {dvs : List V} {kws : List (Str × V)} {f : Addr} {fd : FuncData} {N ps : List Str} {k : Nat} {sp : FSpec} {b : DS} (kp : Bool) (hns : BaseOk K mg base) (htr : P.given.tree = none)
    (F : FunD K x qual params body scope dvs kws f fd) (S : FnScope N ps scope)
    (hd : ∀ (X : Cx) (cdv : Value) (A : Around) (outer : List Env) (s : Shared) (H : Hp) (E : XK), X = (cxOf CX0 P w K mg base N qual scope f cdv A outer s H E).nox → CodeIs K f cdv → Amb k X → JSs X body b)
    (hsp : ∀ args st0 Qd, sp args st0 Qd → args.length = ps.length ∧ b (endsOf kp st0.length Qd) (startM N.length args st0)) : Fnn P w K mg base CX0 (k + 1) f fd ps (liftSp K sp) := by
  obtain ⟨oc, od, dV, kV, doc, pm, an, cdv, ct, osl, rfl, lk, hcd, _, _⟩ := F.ex
  refine fnn_of hns htr lk hcd S (fun vs H Q E h => ?_) fun A outer s H vs Q E amb h => ?_
  · obtain ⟨W, F1, A1, st1, args, Qd, G, r, q, c⟩ := h
    rw [← r.length]
    exact (hsp _ _ _ q).1
  · obtain ⟨W, F1, A1, st1, args, Qd, G, r, q, c⟩ := h
    have h1 := hd (cxOf CX0 P w K mg base N qual scope f cdv A outer s H E).nox cdv A outer s H E rfl ⟨oc, od, _, osl, lk, rfl⟩ ⟨amb.rm, amb.py, amb.tb⟩
    refine ⟨_, PSs.nox h1, ?_⟩
    have hl := r.length
    refine ⟨W, F1, A1, startM N.length args st1, endsOf kp st1.length Qd, ⟨G.ext, G.hid, G.dj, ?_, ?_, G.len, G.st, G.nd, G.tb⟩, (hsp _ _ _ q).2, ⟨?_, ?_, ?_, ?_⟩⟩
    · unfold startM L2.start
      simp [hl]
    · intro i v e
      unfold startM at e
      unfold L2.start
      rw [← hl]
      exact repVs_slots r _ i v e
    · intro F' A' m' σ' H' s' p' G' q'
      exact retD_ok (kp := kp) (v := .d .non) (u := .non) G.len s' p' G' rv_non q' c
    · intro F' A' m' σ' H' v u s' p' G' r' q'
      exact retD_ok (kp := kp) G.len s' p' G' r' q' c
    · intro F' A' m' σ' H' _ _ _ q'
      exact q'
    · intro F' A' m' σ' H' _ _ _ q'
      exact q'

theorem law_callR {P : Program} {w : World} {K : PySem.W.Frag} {mg mb : Str → Option Value} {k : Nat} {fa a : Addr} {fd : FuncData} {x : Str} {sp : Sp} {s₁ : Shared} {vs : List Value} {ns : List Int}
    (KX : K.In s₁.heap) (nl : NoLst K) (tk : TabsOk K s₁.heap) (hns : s₁.heap.Ns mainGlobals mg) (hb : s₁.heap.Ns builtinsNs mb) (hbb : ∀ x : Str, x ≠ "__name__" → mb x = bootBuiltins x) (hlim : s₁.heap.NoLimit) (hseer : s₁.heap.NoSeer) (hg : s₁.gens = #[])
    (hbm : ∃ (bm : Addr) (ob : Obj), mg "__builtins__" = some (.ref bm) ∧ bm ≠ builtinsNs ∧ s₁.heap.get? bm = some ob ∧ ob.cls = .type "module" ∧ ob.dict = some builtinsNs ∧ ob.data = .plain)
    (ha : s₁.heap.get? a = some { cls := .type "list", data := .seq vs.toArray }) (hi : IntsAre vs ns) (hl : ns.length ≤ sizeLine) (hr : GRoom k callerA)
    (F : ∀ base : Heap, K.In base → base.Ns mainGlobals mg → BaseOk K mg base → Fnn P w K mg base CX0 k fa fd [x] sp) (hbind : ∀ (s : Shared) (u : Value), BindsTo s fd ⟨[u], []⟩ [(x, u)])
    (hsp : ∀ (H : Hp) (o : Obj), H a = some (.frz o (.lst (ns.map V.int))) → (∀ q ∈ tabsK K, H q.2 = some (.tbl #[])) → sp [.ref a] H (fun v _ => v = .bl true) E0) :
    codeAny (model P w) callerA (.call (.ref fa) ⟨[.ref a], []⟩) (fun r s' => r = .ok (.ret (.bool true)) ∧ OldK s₁.heap s'.heap ∧ s'.os = s₁.os ∧ AllBare s'.gens) s₁ := by
  have rv := vals_ints hi
  have lenV := hi.length
  have hk : K.lookup a = none := by
    cases q : K.lookup a with
    | none => rfl
    | some o =>
      have e := KX a o q
      rw [ha] at e
      have e2 := Option.some.inj e
      have := nl a o q
      rw [← e2] at this
      have z : notLst { cls := .type "list", data := .seq vs.toArray } = false := by
        show decide ("list" ≠ "list") = false
        decide
      rw [z] at this
      cases this
  have isT : ∀ b : Addr, b ∈ (tabsK K).map (·.2) → s₁.heap.get? b = some { cls := .none, data := .fields #[] } := fun b hb => by
    obtain ⟨p, hp, e⟩ := List.mem_map.mp hb
    rw [← e]
    exact tk.get p hp
  have aT : a ∉ (tabsK K).map (·.2) := fun z => by
    have q := isT a z
    rw [ha] at q
    have z' : Data.seq vs.toArray _ = Data.fields #[] := congrArg Obj.data (Option.some.inj q)
    cases z'
  have memT : ∀ p ∈ tabsK K, p.2 ∈ (tabsK K).map (·.2) := fun p hp => List.mem_map.mpr ⟨p, hp, rfl⟩
  let H : Hp := fun b => if b = a then some (.frz { cls := .type "list", data := .seq vs.toArray } (.lst (ns.map V.int))) else if b ∈ (tabsK K).map (·.2) then some (.tbl #[]) else none
  have Ha : H a = some (.frz { cls := .type "list", data := .seq vs.toArray } (.lst (ns.map V.int))) := if_pos rfl
  have Ht : ∀ b ∈ (tabsK K).map (·.2), H b = some (.tbl #[]) := fun b hb => (if_neg (show ¬ b = a from fun z => aT (z ▸ hb))).trans (if_pos hb)
  have Hn : ∀ b, b ≠ a → b ∉ (tabsK K).map (·.2) → H b = none := fun b hb hb2 => (if_neg hb).trans (if_neg hb2)
  have hok : HOk P w H s₁.heap := fun b u z => by
    by_cases hb : b = a
    · subst hb
      rw [Ha] at z
      cases z
      exact ⟨ha, by rw [List.length_map]; exact hl, vs, _, rv, ha⟩
    · by_cases hb2 : b ∈ (tabsK K).map (·.2)
      · rw [Ht b hb2] at z
        cases z
        exact isT b hb2
      · rw [Hn b hb hb2] at z
        cases z
  have base_of : ∀ {b : Addr} {o : Obj}, s₁.heap.get? b = some o → H b = none → (hidT s₁.heap H).get? b = some o := fun e n => hidT_get e n
  have noC : ∀ {b : Addr} {o : Obj}, s₁.heap.get? b = some o → o.cls ≠ .type "list" → o.cls ≠ .none → H b = none := fun {b o} e d d2 => by
    refine Hn b (fun z => ?_) fun z => ?_
    · subst z
      rw [ha] at e
      cases e
      exact absurd rfl d
    · rw [isT b z] at e
      cases e
      exact absurd rfl d2
  have noA : ∀ {b : Addr} {o : Obj} {es : Array DictEntry} {ep : Nat}, s₁.heap.get? b = some o → o.data = .dict es ep → H b = none := fun {b o es ep} e d => by
    refine Hn b (fun z => ?_) fun z => ?_
    · subst z
      rw [ha] at e
      cases e
      have d' : Data.seq vs.toArray _ = Data.dict es ep := d
      cases d'
    · rw [isT b z] at e
      cases e
      cases d
  have nsK : ∀ {b : Addr} {m : Str → Option Value}, s₁.heap.Ns b m → (hidT s₁.heap H).Ns b m := fun {b m} ⟨o, es, ep, e, d, r⟩ => ⟨o, es, ep, base_of e (noA e d), d, r⟩
  have hKb : K.In (hidT s₁.heap H) := fun b o e => base_of (KX b o e) (by
    refine Hn b (fun z => ?_) fun z => ?_
    · subst z
      rw [hk] at e
      cases e
    · obtain ⟨p, hp, ep⟩ := List.mem_map.mp z
      rw [← ep, tk.out p hp] at e
      cases e)
  have hM : Mod K mg (hidT s₁.heap H) := ⟨hKb, nsK hns, ⟨mb, nsK hb, hbb⟩, let ⟨mc, h1, h2⟩ := hlim; ⟨mc, nsK h1, h2⟩⟩
  have hS : (hidT s₁.heap H).NoSeer := ⟨let ⟨mc, a, b⟩ := hseer.statics; ⟨mc, nsK a, b⟩, let ⟨mc, a, b⟩ := hseer.mods; ⟨mc, nsK a, b⟩, let ⟨mc, a, b⟩ := hseer.imp; ⟨mc, nsK a, b⟩,
    let ⟨mg, bm, ob, a, b, c, d, e⟩ := hseer.main; ⟨mg, bm, ob, nsK a, b, base_of c (noC c (by rw [d]; decide) (by rw [d]; intro z; cases z)), d, e⟩⟩
  have TB : ∀ p ∈ tabsK K, GxR.TabB (hidT s₁.heap H) mg p.1 p.2 := fun p hp => by
    have hTp := tk.get p hp
    refine ⟨PySem.W.codeHd_of_K hKb (tk.cd p hp), ?_, fun z => ?_⟩
    · obtain ⟨bm, ob, b1, b2, b3, b4, b5, b6⟩ := hbm
      have nG : bm ≠ mainGlobals := fun q => by
        obtain ⟨o, es, ep, e, hd, _⟩ := hns
        rw [q, e] at b3
        cases b3
        rw [hd] at b6
        cases b6
      have nP : bm ≠ p.2 := fun q => by
        rw [q, hTp] at b3
        cases b3
        cases b6
      exact ⟨bm, ob, b1, b2, nG, nP, base_of b3 (noC b3 (by rw [b4]; decide) (by rw [b4]; intro z; cases z)), b4, b5, b6⟩
    · obtain ⟨o, es, ep, e, hd, _⟩ := hns
      rw [z, hTp] at e
      cases e
      cases hd
  have e0 : Env0 P w K mg (hidT s₁.heap H) callerA [] s₁ H := ⟨rfl, hM, fun b o e => of_hidT e, Nat.le_of_eq (hidT_size _ _), trivial, fun b hb => absurd (show b ∈ ([] : List Addr) from hb) (by simp), hok, .of_eq hg⟩
  refine codeAny_mono ((F _ hKb (nsK hns) ⟨hS, TB⟩).run callerA [] s₁ H ⟨[.ref a], []⟩ [.ref a] [.ref a] _ _ hr e0 (hbind s₁ (.ref a)) (.cons rfl .nil) (hsp H _ Ha fun q hq => Ht _ (memT q hq))) fun r s' h => ?_
  cases r with
  | error e => exact (show False from h).elim
  | ok fl =>
    cases fl with
    | next => exact False.elim h
    | brk => exact False.elim h
    | cont => exact False.elim h
    | ret u =>
      obtain ⟨v, H', os, bare, un, hok', r', q⟩ := h
      have q' : v = .bl true := q
      subst q'
      obtain rfl : u = Value.bool true := r'
      have key : ∀ b o, b ∉ (tabsK K).map (·.2) → s₁.heap.get? b = some o → s'.heap.get? b = some o := fun b o nb e => by
        by_cases hb : b = a
        · subst hb
          have z2 := un.frzs b _ _ Ha
          obtain ⟨e1, _⟩ := hok b _ Ha
          obtain ⟨e2, _⟩ := hok' b _ z2
          rw [e] at e1
          cases e1
          exact e2
        · exact un.keep b o e (Hn b hb nb) (by intro z; exact absurd (show b ∈ ([] : List Addr) from z) (by simp)) (by simp)
      have grown : ∀ p ∈ tabsK K, ∃ more : Array Value, s'.heap.get? p.2 = some { cls := .none, data := .fields more } := fun p hp => by
        obtain ⟨more, z⟩ := un.tbls p.2 #[] (Ht _ (memT p hp))
        exact ⟨_, hok' p.2 _ z⟩
      refine ⟨rfl, ⟨fun b o e => ?_, fun b o e => ?_⟩, os, bare⟩
      · by_cases hb : b ∈ (tabsK K).map (·.2)
        · obtain ⟨p, hp, ep⟩ := List.mem_map.mp hb
          obtain ⟨more, hm⟩ := grown p hp
          rw [← ep] at e ⊢
          rw [tk.get p hp] at e
          cases e
          exact .inr (.inl ⟨((PySem.W.codeHd_of_K KX (tk.cd p hp)).tab (tk.get p hp)).isCodeTable, rfl, #[], more, rfl, by rw [Array.empty_append]; exact hm⟩)
        · exact .inl (key b o hb e)
      · by_cases hb : b ∈ (tabsK K).map (·.2)
        · obtain ⟨p, hp, ep⟩ := List.mem_map.mp hb
          obtain ⟨more, hm⟩ := grown p hp
          rw [← ep]
          exact ⟨_, hm⟩
        · exact ⟨o, key b o hb e⟩
def LawD (n : Nat) (sp : FSpec) : Prop := ∀ ns : List Int, ns.length ≤ n → (∀ z ∈ ns, Builtin.Int.intBits z ≤ 1048576) → sp [.d (.lst (ns.map .int))] [] fun r _ => r = .d (.bl true)
theorem good0 {K : PySem.W.Frag} {F H : Hp} (s : Same F H) (t : ∀ q ∈ tabsK K, GxR.TabG H q.2 ∧ F q.2 = none) : Good K (fun _ => none) F [] ⟨[], []⟩ [] H where
  ext := s
  hid := fun _ _ e => nomatch e
  dj := fun _ _ e => nomatch e
  slen := rfl
  sl := fun i v e => by simp at e
  len := rfl
  st := fun k xs e => by simp at e
  nd := fun j k xs ys a e => by simp at e
  tb := fun q hq => ⟨(t q hq).1, (t q hq).2, rfl⟩
theorem reps_ints {K : PySem.W.Frag} {F : Hp} : ∀ ns : List Int, Reps K F (ns.map .int) (ns.map V.int)
  | [] => .nil
  | n :: ns => .cons rep_int (reps_ints ns)
theorem walk_R {l : PySem.W.OpenLaw} {n k : Nat} {q : Program} {loose : List Str} {XP : (Str → Option Value) → Heap → Prop} {YP : World → Heap → Prop} {d : DefRec} {x : Str} {sp : FSpec}
    (hn : l.most = some n) (hn2 : n ≤ sizeLine) (hdf : d.params.defaults = []) (hr : GRoom k callerA) (hi : importsNone q = true) (law : LawD n sp)
    (F : ∀ (w : World) (mg : Str → Option Value) (fa : Addr) (h : Heap), YP w h → h.Ns mainGlobals mg → mg d.name = some (.ref fa) →
      ∃ (K : PySem.W.Frag) (fd : FuncData), K.In h ∧ NoLst K ∧ TabsOk K h ∧ (∀ (s : Shared) (u : Value), BindsTo s fd ⟨[u], []⟩ [(x, u)]) ∧
        ∀ base : Heap, K.In base → base.Ns mainGlobals mg → BaseOk K mg base → Fnn l.prog w K mg base CX0 k fa fd [x] (liftSp K sp)) :
    PySem.W.WalkO q loose XP YP l.row.toRowW d [] (fun f vs => PySem.call f vs) := by
  refine Att.attach_callB hn hdf fun w s₀ s₁ mg mb fa o pm cd doc a vs ns G Y ho hd hcd hmg hobj hints hlen hbits hg => ?_
  obtain ⟨K, fd, KX, nl, tk, hb, hF⟩ := F w mg fa _ Y G.T.g hmg
  refine law_callR KX nl tk G.T.g G.T.b G.T.builtins G.T.nolimit (G.T.seer hi) hg G.T.bmain hobj hints (Nat.le_trans hlen hn2) hr hF hb fun H ob hS hT => ?_
  have sF : Same (fun b => if b = a then H b else none) H := fun b o e => by
    by_cases hb : b = a
    · have e' := (if_pos hb).symm.trans e
      exact e'
    · have e' := (if_neg hb).symm.trans e
      cases e'
  refine ⟨fun _ => none, fun b => if b = a then H b else none, [], [], [.d (.lst (ns.map .int))], _, good0 sF (fun q hq => ⟨⟨#[], hT q hq, trivial⟩, if_neg (fun z => ?_)⟩), ⟨.ref a, [], rfl, ?_, rfl⟩, law ns hlen hbits, fun F' A' st' H' r u _ _ _ r' q' => ?_⟩
  · have := hT q hq
    rw [z, hS] at this
    cases this
  · show Rep K _ (.lst (ns.map .int)) (.ref a)
    simp only [Rep]
    exact ⟨a, _, rfl, .inr ⟨ob, (if_pos rfl).trans hS⟩, reps_ints ns⟩
  · rw [q'] at r'
    exact repB_bl (H := H') r'
end RT

set_option maxRecDepth 100000
set_option maxHeartbeats 4000000
namespace RT
open PySem PySem.Spec PyProof.Rows L2

def rAddA : DR2 := fun x y P => match x, y with
  | .int i, .int j => P (.int (i + j))
  | .str i, .str j => i.length + j.length ≤ sizeLine ∧ P (.str (i ++ j))
  | .tup xs, .tup ys => xs.length + ys.length ≤ sizeLine ∧ P (.tup (xs ++ ys))
  | .lst xs, .lst ys => xs.length + ys.length ≤ sizeLine ∧ P (.lst (xs ++ ys))
  | _, _ => False
section
variable {X : Cx}
theorem o_addA : OpD X (binaryOp .Add) rAddA := ⟨_, (op_add.or op_add_str).or (op_catA.or op_catR), fun W F A m σ H x y u v P Q G rx ry q c => by
  unfold rAddA at q
  split at q
  · exact .inl (.inl ⟨_, _, repB_int rx, repB_int ry, c F H _ _ (Same.refl _) G rep_int q⟩)
  · exact .inl (.inr ⟨_, _, repB_str rx, repB_str ry, q.1, c F H _ _ (Same.refl _) G rep_str q.2⟩)
  · rename_i xs ys
    obtain ⟨R, hR, hv⟩ := o_catT (X := X)
    obtain ⟨l, vs, rfl, hl, rl⟩ := repB_tup rx
    obtain ⟨b, ws, rfl, hb, rb⟩ := repB_tup ry
    refine .inr (.inl ⟨l, b, vs, ws, rfl, rfl, seqT_mono G.ext hl, seqT_mono G.ext hb, by rw [← rl.length, ← rb.length]; exact q.1, fun e => ?_, fun e e2 => ?_, fun _ _ p np => ?_⟩)
    · have e1 := reps_nil rl e
      subst e1
      exact c F H _ _ (Same.refl _) G ry q.2
    · have e1 := reps_nil rb e2
      subst e1
      have q2 := q.2
      rw [List.append_nil] at q2
      exact c F H _ _ (Same.refl _) G rx q2
    · obtain ⟨F2, s2, G2, r2⟩ := tup_laid G np (rl.append rb)
      exact c F2 _ _ _ s2 G2 r2 q.2
  · rename_i xs ys
    obtain ⟨l, vs, rfl, hl, rl⟩ := rx
    obtain ⟨b, ws, rfl, hb, rb⟩ := ry
    refine .inr (.inr ⟨l, b, vs, ws, rfl, rfl, hl, hb, by rw [← rl.length, ← rb.length]; exact q.1, fun p np => ?_⟩)
    obtain ⟨F2, s2, G2, r2⟩ := lst_laid G np (rl.append rb)
    exact c F2 _ _ _ s2 G2 r2 q.2
  · exact q.elim⟩

def iAny (K : PySem.W.Frag) (tl : TE) : TI := fun σ H R => tl σ H fun x H1 => ∃ a, x = .ref a ∧ (((∃ xs, SqL K H1 a xs) ∧ R (Itl K a) H1) ∨ ((∃ xs, SqT K H1 a xs) ∧ R (Itt K a) H1))
theorem pi_any {tg l : Expr} {tl : TE} (hl : PE X l tl) : PI X tg l (iAny X.K tl) := by
  refine ⟨fun pins s σ H R I h => ?_⟩
  refine thn (hl.run pins s σ H _ I h) fun v s1 ⟨x, H1, I1, r1, a, ex, q⟩ => ?_
  subst ex
  cases r1
  rcases q with ⟨⟨xs, hs⟩, q⟩ | ⟨⟨xs, hs⟩, q⟩
  · obtain ⟨its, rv, p, hz⟩ := I1.list hs
    refine wpAny_pyIter_list p.isList ?_
    refine ⟨s1.heap.objs.size, [s1.heap.objs.size], _, _, H1, rfl, I1.kept (t' := s1.toks) fun b o e => Heap.get?_push_of_some _ e, turn_list a _, ⟨_, Heap.get?_push_size _ rfl, rfl, rfl⟩, fun b hb => ?_, q⟩
    have e : b = s1.heap.objs.size := by simpa using hb
    subst e
    exact I1.fpOk (Nat.le_refl _) (I1.hok.fresh (Nat.le_refl _))
  · obtain ⟨its, rv, p, hz⟩ := I1.tuple hs
    refine wpAny_pyIter_tuple (show s1.heap.IsTuple a its.toArray from p) ?_
    refine ⟨s1.heap.objs.size, [s1.heap.objs.size], _, _, H1, rfl, I1.kept (t' := s1.toks) fun b o e => Heap.get?_push_of_some _ e, turn_tuple a _, ⟨_, Heap.get?_push_size _ rfl, rfl, rfl⟩, fun b hb => ?_, q⟩
    have e : b = s1.heap.objs.size := by simpa using hb
    subst e
    exact I1.fpOk (Nat.le_refl _) (I1.hok.fresh (Nat.le_refl _))
def dAny (t : DE) : DI := fun m Q => t m fun v m1 => match v with
  | .d (.lst xs) => Q xs none m1
  | .d (.tup xs) => Q xs none m1
  | .c k => onC m1.st k fun xs => Q xs (some k) m1
  | _ => False
theorem ji_any {tg l : Expr} {t : DE} (hl : JE X l t) : JI X tg l (dAny t) := by
  refine (pi_any hl).imp fun σ H R hh => ?_
  obtain ⟨W, F, A, m, Qd, G, h, c⟩ := hh
  refine ⟨W, F, A, m, _, G, h, fun F1 A1 v m1 H1 s1 p1 G1 q1 u r1 => ?_⟩
  split at q1
  · rename_i xs
    have r' : Rep X.K F1 (.lst xs) u := r1
    simp only [Rep] at r'
    obtain ⟨a, vs, rfl, hs, rs⟩ := r'
    exact ⟨a, rfl, .inl ⟨⟨vs, .inl (rd_mono G1.ext hs)⟩, c F1 A1 xs none m1 H1 s1 p1 G1 q1 _ (walks_list (.inl hs) rs)⟩⟩
  · rename_i xs
    have r' : Rep X.K F1 (.tup xs) u := r1
    simp only [Rep] at r'
    obtain ⟨a, vs, rfl, hs, rs⟩ := r'
    exact ⟨a, rfl, .inr ⟨⟨vs, seqT_mono G1.ext hs⟩, c F1 A1 xs none m1 H1 s1 p1 G1 q1 _ (walks_tup hs rs)⟩⟩
  · rename_i k
    obtain ⟨xs, e, q1⟩ := onC_elim q1
    obtain ⟨a, ha, rfl⟩ := r1
    obtain ⟨a', vs, h1, h2, h3, _⟩ := G1.st k xs e
    rw [ha] at h1
    cases h1
    exact ⟨a, rfl, .inl ⟨⟨vs, SqL.of h2⟩, c F1 A1 xs (some k) m1 H1 s1 p1 G1 q1 _ (walks_own ha)⟩⟩
  · exact q1.elim

section
variable {a b e : Expr} {ta tb tc : DE} {pos : Pos} {f g : Int → Int → Bool}
end

structure SlotOk (X : Cx) (i : Nat) (x : Str) : Prop where
  hN : X.N[i]? = some x
  hl : Loc X.env.scope x
  nd : (x == ("__debug__" : Str)) = false
  nc : (x == ("__classdict__" : Str)) = false
  hf : X.fn x = true ∨ X.env.scope.names.lookup x = some .local
theorem SlotOk.vis {i : Nat} {x : Str} (s : SlotOk X i x) : Vis X.env.scope x := s.hl.elim .inl fun h => .inr (.inl h)
theorem je_v {i : Nat} {x : Str} {pos : Pos} (s : SlotOk X i x) : JE X (.Name x pos) (dVar i) := je_var i s.hN s.vis s.nd s.nc
theorem js_st {i : Nat} {x : Str} {pos pos' : Pos} {e : Expr} {te : DE} (hN : X.N.Nodup) (s : SlotOk X i x) (he : JE X e te) (hs : swapsWith e (some (.Name x pos')) pos.line X.env = pure false := by rfl) : JS X (.Assign [.Name x pos'] e pos) (dSet i te) := js_set hN s.hN s.hl he hs s.hf
theorem pg_v {i : Nat} {x : Str} {pos : Pos} (hN : X.N.Nodup) (s : SlotOk X i x) : PG X (.Name x pos) (gName i) := pg_name hN s.hN s.hl s.hf

def FnG (P : Program) (w : World) (K : PySem.W.Frag) (mg : Str → Option Value) (base : Heap) (x : Str) (k : Nat) (sp : FSpec) (dargs : List Vl) : Prop :=
  ∃ (f : Addr) (fd : FuncData) (ps : List Str) (ds : List Value) (dvs : List V), Fnn P w K mg base CX0 k f fd ps (liftSp K sp) ∧ mg x = some (.ref f) ∧ PySem.W.keepIn K (.ref f) = true ∧ Binds K fd ps ds ∧ Vals dvs ds ∧ ∀ F A, RepVs K F A dargs dvs
theorem je_cg {j k : Nat} {x : Str} {p pos : Pos} {e : Expr} {es : List Expr} {ts : DA} {sp : FSpec} {dargs : List Vl} (F : FnG X.prog X.w X.K X.mg X.base x j sp dargs) (hr : GRoom k X.A) (hg : Gl X x) (ha : JA X (e :: es) ts) (hj : j ≤ k := by decide) (nd : (x == ("__debug__" : Str)) = false := by decide)
    (he : starEach (e :: es) X.env = (false, eval e X.env) :: starEach es X.env := by rfl) (hpl : (backTo pos (starEach es X.env)).any (·.1) = false := by rfl) :
    JE X (.Call (.Name x p) (e :: es) [] pos) (dCall sp dargs ts) := je_call ⟨nd, F⟩ (hr.mono hj) hg ha he hpl
def spOf (kp : Bool) (n N : Nat) (b : DS) : FSpec := fun args st Q => args.length = n ∧ b (endsOf kp st.length Q) (startM N args st)
theorem mkG {P : Program} {w : World} {K : PySem.W.Frag} {mg : Str → Option Value} {base : Heap} {x y qual : Str} {params : Arguments} {body : List Stmt} {scope : Scope} {kws : List (Str × V)} {f : Addr} {fd : FuncData} {N ps : List Str} {k n m : Nat} {b : DS} (kp : Bool) (hns : BaseOk K mg base) (htr : P.given.tree = none)
    (F : FunD K y qual params body scope [] kws f fd) (hm : mg x = some (.ref f)) (S : FnScope N ps scope) (hn : ps.length = n) (hN : N.length = m)
    (hb : ∀ (kV doc pm : Value) (an : Option Addr) (cdv ct : Value) (us : List Value), us.length = ps.length → bindArgs (PySem.W.fnOf y qual params body scope .none kV doc pm an cdv ct) ⟨us, []⟩ = pure (ps.zip us))
    (hd : ∀ (X : Cx) (cdv : Value) (A : Around) (outer : List Env) (s : Shared) (H : Hp) (E : XK), X = (cxOf CX0 P w K mg base N qual scope f cdv A outer s H E).nox → CodeIs K f cdv → Amb k X → JSs X body b) :
    FnG P w K mg base x (k + 1) (spOf kp n m b) [] := by
  subst hn hN
  exact ⟨f, fd, ps, [], [], fn_dtD kp hns htr F S hd fun args st0 Qd h => h, hm, F.kp, F.bindsN hb, .nil, fun _ _ => rfl⟩
end
end RT

set_option maxRecDepth 100000
set_option maxHeartbeats 4000000
namespace RT
open PySem PySem.Spec PyProof.Rows L2
abbrev rLt : DR2 := rInt (fun _ _ => True) fun i j => .bl (decide (i < j))
abbrev rLe : DR2 := rInt (fun _ _ => True) fun i j => .bl (decide (i ≤ j))
abbrev rGt : DR2 := rInt (fun _ _ => True) fun i j => .bl (decide (j < i))
abbrev rGe : DR2 := rInt (fun _ _ => True) fun i j => .bl (decide (j ≤ i))
abbrev rSub : DR2 := rInt (fun _ _ => True) fun i j => .int (i - j)
abbrev rMul : DR2 := rInt MulOk fun i j => .int (i * j)
abbrev rDiv : DR2 := rInt (fun _ j => j ≠ 0) fun i j => .int (i.fdiv j)
abbrev rMod : DR2 := rInt (fun _ j => j ≠ 0) fun i j => .int (i.fmod j)
abbrev rPow : DR2 := rInt CPow fun i j => .int (i ^ j.toNat)
theorem boot_len : bootBuiltins "len" = some (.builtin "len") := by decide +kernel
theorem boot_abs : bootBuiltins "abs" = some (.builtin "abs") := by decide +kernel
theorem boot_int : bootBuiltins "int" = some (.type "int") := by decide +kernel
section
variable {P : Program} {w : World} {K : PySem.W.Frag} {mg : Str → Option Value} {base : Heap} {x y qual : Str} {params : Arguments} {body : List Stmt} {scope : Scope} {dvs : List V} {kws : List (Str × V)} {f : Addr} {fd : FuncData} {N ps : List Str} {k n m : Nat} {b : DS}
theorem mkGd {i : Int} (kp : Bool) (hns : BaseOk K mg base) (htr : P.given.tree = none)
    (F : FunD K y qual params body scope [.int i] kws f fd) (hm : mg x = some (.ref f)) (S : FnScope N ps scope) (hn : ps.length = n + 1) (hN : N.length = m)
    (hb : ∀ (T : Addr) (kV doc pm : Value) (an : Option Addr) (cdv ct : Value) (us its : List Value), us.length = n + 1 → its.length = 1 →
      ∃ k, bindArgs (PySem.W.fnOf y qual params body scope (.ref T) kV doc pm an cdv ct) ⟨us, []⟩ = seqItems? (.ref T) >>= k ∧ k (some its.toArray) = pure (ps.zip us))
    (hb1 : ∀ (T : Addr) (kV doc pm : Value) (an : Option Addr) (cdv ct : Value) (us its : List Value), us.length = n → its.length = 1 →
      ∃ k, bindArgs (PySem.W.fnOf y qual params body scope (.ref T) kV doc pm an cdv ct) ⟨us, []⟩ = seqItems? (.ref T) >>= k ∧ k (some its.toArray) = pure (ps.zip (us ++ its)))
    (hd : ∀ (X : Cx) (cdv : Value) (A : Around) (outer : List Env) (s : Shared) (H : Hp) (E : XK), X = (cxOf CX0 P w K mg base N qual scope f cdv A outer s H E).nox → CodeIs K f cdv → Amb k X → JSs X body b) :
    FnG P w K mg base x (k + 1) (spOf kp (n + 1) m b) [] ∧ FnG P w K mg base x (k + 1) (spOf kp (n + 1) m b) [.d (.int i)] := by
  subst hN
  have fn : Fnn P w K mg base CX0 (k + 1) f fd ps (liftSp K (spOf kp (n + 1) N.length b)) := fn_dtD kp hns htr F S hd fun args st0 Qd h => ⟨h.1.trans hn.symm, h.2⟩
  obtain ⟨ds, r, B⟩ := F.binds1 (ps := ps) (n + 1) 1 (by simp) (by simp [hn]) (fun T kV doc pm an cdv ct us its hu hi => by
    obtain ⟨k, e1, e2⟩ := hb T kV doc pm an cdv ct us its hu hi
    refine ⟨k, e1, ?_⟩
    rw [e2, List.drop_eq_nil_of_le (by rw [hi]; exact Nat.le_refl _), List.append_nil])
  obtain ⟨ds1, r1, B1⟩ := F.binds1 (ps := ps) n 0 (by simp) (by simp [hn]) (fun T kV doc pm an cdv ct us its hu hi => by
    obtain ⟨k, e1, e2⟩ := hb1 T kV doc pm an cdv ct us its hu hi
    exact ⟨k, e1, by rw [e2, List.drop_zero]⟩)
  have e : ds = [] := by
    cases r
    rfl
  subst e
  exact ⟨⟨f, fd, ps, [], [], fn, hm, F.kp, B, .nil, fun _ _ => rfl⟩, ⟨f, fd, ps, ds1, _, fn, hm, F.kp, B1, r1, fun _ _ => ⟨_, _, rfl, rv_int, rfl⟩⟩⟩
end
theorem mkF {P : Program} {w : World} {K : PySem.W.Frag} {mg : Str → Option Value} {base : Heap} {y qual : Str} {params : Arguments} {body : List Stmt} {scope : Scope} {dvs : List V} {kws : List (Str × V)} {f : Addr} {fd : FuncData} {N ps : List Str} {k n m : Nat} {b : DS} (kp : Bool) (hns : BaseOk K mg base) (htr : P.given.tree = none)
    (F : FunD K y qual params body scope dvs kws f fd) (S : FnScope N ps scope) (hn : ps.length = n) (hN : N.length = m)
    (hd : ∀ (X : Cx) (cdv : Value) (A : Around) (outer : List Env) (s : Shared) (H : Hp) (E : XK), X = (cxOf CX0 P w K mg base N qual scope f cdv A outer s H E).nox → CodeIs K f cdv → Amb k X → JSs X body b) :
    Fnn P w K mg base CX0 (k + 1) f fd ps (liftSp K (spOf kp n m b)) := by
  subst hn hN
  exact fn_dtD kp hns htr F S hd fun args st0 Qd h => h
end RT
namespace RT
open PySem PySem.Spec PyProof.Rows L2
theorem gl_of {X : Cx} {sc : Scope} {x : Str} (e : X.env.scope = sc) (h : sc.names.lookup x = some .globalImplicit) : Gl X x := by
  show X.env.scope.names.lookup x = some .globalImplicit
  rw [e]
  exact h
theorem slot_of {X : Cx} {sc : Scope} {N : List Str} {i : Nat} {x : Str} (e : X.env.scope = sc) (eN : X.N = N) (hfn : ∀ x, X.fn x = true) (h : N[i]? = some x) (hl : sc.names.lookup x = some .local ∨ sc.names.lookup x = some .cell) (h1 : (x == ("__debug__" : Str)) = false := by decide) (h2 : (x == ("__classdict__" : Str)) = false := by decide) : SlotOk X i x :=
  ⟨by rw [eN]; exact h, by rw [e]; exact hl, h1, h2, .inl (hfn x)⟩
theorem swap_ok {X : Cx} {x y : Str} {px py pt pt2 : Pos} {kt k2 : Nat} {a b : Expr} (hk : X.env.scope.kind = .function) (hx : X.env.scope.names.lookup x = some .local) (hy : X.env.scope.names.lookup y = some .local) (hxy : ([x, y].eraseDups.length != 2) = false) (hl : (py.line == px.line) = true)
    (hs1 : (match a with | .Starred .. => true | _ => false) = false) (hs2 : (match b with | .Starred .. => true | _ => false) = false) (hf : [a, b].all (foldedForSure 8) = false) (hc : [a, b].all (constantsAlone 8) = false) :
    swappedStores [.Tuple [.Name x px, .Name y py] kt pt] (.Tuple [a, b] k2 pt2) X.env = pure (some [x, y]) := by
  have kx : X.env.kindOf x = some .local := hx
  have ky : X.env.kindOf y = some .local := hy
  have hb : X.env.blockKind = .function := by unfold Env.blockKind; rw [hk]; rfl
  unfold swappedStores
  simp only [hb, List.length_cons, List.length_nil, List.head?_cons, Option.map_some, Option.getD_some, List.filterMap_cons, List.filterMap_nil, kx, ky, Expr.pos, hl, hf, hc, List.any_cons, List.any_nil, hs1, hs2]
  simp only [beq_self_eq_true, Bool.and_self, if_true, List.length_cons, List.length_nil, hxy]
  simp [hxy, hf, hc]
  intro h
  rcases h with h | h
  · cases a <;> first | (simp at h; done) | (simp at hs1; done)
  · cases b <;> first | (simp at h; done) | (simp at hs2; done)
end RT
namespace RT
open PySem PySem.Spec PyProof.Rows L2
def CstG (K : PySem.W.Frag) (mg : Str → Option Value) (x : Str) (d : Dt) : Prop := ∃ (v : V) (u : Value), mg x = some u ∧ RelV v u ∧ ∀ F, Rep K F d v
theorem CstG.at_ {X : Cx} {x : Str} {d : Dt} (c : CstG X.K X.mg x d) (g : Gl X x) (nd : (x == ("__debug__" : Str)) = false) : GlobD X x d := ⟨g, c, nd⟩
theorem blk_of {X : Cx} {sc : Scope} {N : List Str} {scope : Scope} {own : List (Str × Nat)} (eN : X.N = N) (eS : X.env.scope = sc) (h : blkC N sc scope own = true) : BlkOk X.N X.env.scope scope own := by
  rw [eN, eS]
  exact blkOk_by h
end RT

set_option maxRecDepth 100000
set_option maxHeartbeats 4000000
namespace RT
open PySem PySem.Spec PyProof.Rows L2

mutual
def vB (K : PySem.W.Frag) : Dt → Value → Bool
  | .non, u => decide (u = .none)
  | .bl b, u => decide (u = .bool b)
  | .int i, u => (match u with
    | .int j _ => decide (j = i)
    | _ => false)
  | .str s, u => (match u with
    | .str t _ => decide (t = s)
    | _ => false)
  | .tup ds, u => (match u with
    | .ref a => (match K.lookup a with
      | some ⟨.type c, _, .seq its _, _⟩ => decide (c = "tuple") && (decide (its.size ≤ sizeLine) && vBs K ds its.toList)
      | _ => false)
    | _ => false)
  | .lst _, _ => false
def vBs (K : PySem.W.Frag) : List Dt → List Value → Bool
  | [], [] => true
  | d :: ds, u :: us => vB K d u && vBs K ds us
  | _, _ => false
end
theorem band {a b : Bool} (h : (a && b) = true) : a = true ∧ b = true := Bool.and_eq_true_iff.mp h
mutual
theorem vB_ok {K : PySem.W.Frag} : ∀ {d : Dt} {u : Value}, vB K d u = true → ∃ v, RelV v u ∧ ∀ F, Rep K F d v
  | .non, u, h => ⟨.non, of_decide_eq_true (p := u = .none) h, fun _ => rfl⟩
  | .bl b, u, h => ⟨.bl b, of_decide_eq_true (p := u = .bool b) h, fun _ => rfl⟩
  | .int i, u, h => by
    cases u with
    | int j t =>
      have e : j = i := of_decide_eq_true h
      subst e
      exact ⟨.int j, ⟨t, rfl⟩, fun _ => rfl⟩
    | _ => cases h
  | .str s, u, h => by
    cases u with
    | str y t =>
      have e : y = s := of_decide_eq_true h
      subst e
      exact ⟨.str y, ⟨t, rfl⟩, fun _ => rfl⟩
    | _ => cases h
  | .tup ds, u, h => by
    cases u with
    | ref a =>
      have h' : (match K.lookup a with
        | some ⟨.type c, _, .seq its _, _⟩ => decide (c = "tuple") && (decide (its.size ≤ sizeLine) && vBs K ds its.toList)
        | _ => false) = true := h
      cases q : K.lookup a with
      | none =>
        rw [q] at h'
        cases h'
      | some o =>
        obtain ⟨oc, od, dt, osl⟩ := o
        rw [q] at h'
        cases oc with
        | type c =>
          cases dt with
          | seq its n =>
            obtain ⟨h1, h2⟩ := band (show (decide (c = "tuple") && (decide (its.size ≤ sizeLine) && vBs K ds its.toList)) = true from h')
            obtain ⟨h3, h4⟩ := band h2
            obtain ⟨vs, r, p⟩ := vBs_ok h4
            exact ⟨.ref a, rfl, fun F => ⟨a, vs, rfl, .inr ⟨_, its, n, q, congrArg Value.type (of_decide_eq_true h1), rfl, of_decide_eq_true h3, r⟩, p F⟩⟩
          | _ => cases h'
        | _ => cases dt <;> cases h'
    | _ => cases h
theorem vBs_ok {K : PySem.W.Frag} : ∀ {ds : List Dt} {us : List Value}, vBs K ds us = true → ∃ vs, Vals vs us ∧ ∀ F, Reps K F ds vs
  | [], [], _ => ⟨[], .nil, fun _ => rfl⟩
  | [], _ :: _, h => by cases h
  | _ :: _, [], h => by cases h
  | d :: ds, u :: us, h => by
    obtain ⟨h1, h2⟩ := band (show (vB K d u && vBs K ds us) = true from h)
    obtain ⟨v, r, p⟩ := vB_ok h1
    obtain ⟨vs, r2, p2⟩ := vBs_ok h2
    exact ⟨v :: vs, .cons r r2, fun F => ⟨v, vs, rfl, p F, p2 F⟩⟩
end
def cstB (K : PySem.W.Frag) (x : Str) (d : Dt) : Bool := match PySem.W.nsIn K mainGlobals x with
  | some (some u) => vB K d u
  | _ => false
theorem cst_of {K : PySem.W.Frag} {h : Heap} {mg : Str → Option Value} {x : Str} {d : Dt} (X : K.In h) (G : h.Ns mainGlobals mg) (c : cstB K x d = true) : CstG K mg x d := by
  unfold cstB at c
  cases e : PySem.W.nsIn K mainGlobals x with
  | none =>
    rw [e] at c
    cases c
  | some o =>
    rw [e] at c
    cases o with
    | none => cases c
    | some u =>
      obtain ⟨v, r, p⟩ := vB_ok (show vB K d u = true from c)
      exact ⟨v, u, PySem.W.mg_of X G e, r, p⟩

theorem lookup_relabel_free {env : Env} : ∀ {names : List (Str × NameKind)} {x : Str}, names.lookup x = some .free →
    (names.map fun (n, k) => if (k == NameKind.free && env.scope.kind == .function && env.kindOf n == some .cell) then (n, NameKind.cell) else (n, k)).lookup x = some .cell ∨
    (names.map fun (n, k) => if (k == NameKind.free && env.scope.kind == .function && env.kindOf n == some .cell) then (n, NameKind.cell) else (n, k)).lookup x = some .free
  | [], _, h => by cases h
  | (n, k) :: r, x, h => by
    rw [List.map_cons]
    by_cases hc : (k == NameKind.free && env.scope.kind == .function && env.kindOf n == some .cell) = true
    · simp only [if_pos hc]
      cases hx : x == n with
      | true =>
        simp [List.lookup_cons, hx]
      | false =>
        simp only [List.lookup_cons, hx] at h ⊢
        exact lookup_relabel_free h
    · simp only [if_neg hc]
      cases hx : x == n with
      | true =>
        simp only [List.lookup_cons, hx] at h ⊢
        exact .inr h
      | false =>
        simp only [List.lookup_cons, hx] at h ⊢
        exact lookup_relabel_free h
theorem vis_free {scope : Scope} {cl : List (Str × Addr)} {C : Addr} {env : Env} {x : Str} (h : scope.names.lookup x = some .free) : Vis (compEnvC scope cl C env).scope x := (lookup_relabel_free h).elim (fun h => .inr (.inl h)) fun h => .inr (.inr h)
end RT

set_option maxRecDepth 100000
set_option maxHeartbeats 4000000
namespace RT
open PySem PySem.Spec PyProof.Rows L2

def reprD (x : Dt) : Str := (toPy x).shown
def shows (x : Dt) : Prop := (toPy x).showable = true ∧ (toPy x).depth ≤ 60 ∧ (reprD x).length ≤ sizeLine
def bRepr : DRB := fun xs P => match xs with
  | [x] => shows x ∧ P (.str (reprD x))
  | _ => False
theorem noDictD : ∀ x : Dt, (toPy x).hasDict = false := by
  have go : ∀ n : Nat, ∀ x : Dt, sizeOf x ≤ n → (toPy x).hasDict = false := by
    intro n
    induction n with
    | zero =>
      intro x h
      cases x <;> simp at h
    | succ n ih =>
      intro x h
      have all : ∀ ds : List Dt, sizeOf ds ≤ n → PyData.hasDictAll (toPys ds) = false := by
        intro ds
        induction ds with
        | nil =>
          intro _
          simp [toPys, PyData.hasDictAll]
        | cons d ds ih2 =>
          intro hd
          simp at hd
          simp only [toPys, PyData.hasDictAll, ih d (by omega), ih2 (by omega), Bool.or_self]
      cases x with
      | tup ds =>
        simp at h
        simp only [toPy, PyData.hasDict]
        exact all ds (by omega)
      | lst ds =>
        simp at h
        simp only [toPy, PyData.hasDict]
        exact all ds (by omega)
      | _ => simp [toPy, PyData.hasDict]
  intro x
  exact go _ x (Nat.le_refl _)
section
variable {X : Cx}
theorem call_reprD {k : Nat} (hr : GRoom k X.A) : CallR X (.builtin "repr") (fun xs H Q => ∃ v d, xs = [v] ∧ Dp X.K H v d ∧ d.showable = true ∧ d.depth ≤ 60 ∧ d.shown.length ≤ sizeLine ∧ d.hasDict = false ∧ Q (.str d.shown) H) := by
  intro pins s σ H xs us Q I r h
  obtain ⟨v, d, rfl, hd, h1, h2, h3, h4, q⟩ := h
  have hlen := r.length
  cases us with
  | nil => cases hlen
  | cons u us =>
    cases us with
    | cons a b => cases hlen
    | nil =>
      obtain ⟨u', e, r'⟩ := r.get (i := 0) (x := v) rfl
      cases e
      obtain ⟨as, rd⟩ := Dp.reads I d v u hd r'
      have hu := hr.hu
      have rd0 := rd
      cases rd with
      | none => exact PySem.P.repr_of_none ⟨.str _, H, I.tok _, ⟨_, rfl⟩, q⟩
      | bool => exact PySem.P.repr_of_bool ⟨.str _, H, I.tok _, ⟨_, rfl⟩, q⟩
      | int => exact PySem.P.repr_of_int (by simpa [PyData.showable] using h1) ⟨.str _, H, I.tok _, ⟨_, rfl⟩, q⟩
      | str => exact PySem.P.repr_of_str ⟨.str _, H, I.tok _, ⟨_, rfl⟩, q⟩ h3
      | _ => exact _root_.PySem.repr_of_reads' rd0 h1 (PyData.noDict_hsm h4) hr.gd (by omega) (fun b o e => e) (fun h' u tk hk => ⟨.str _, H, I.kept hk, ⟨_, rfl⟩, q⟩) h3
theorem b_repr {k : Nat} (hr : GRoom k X.A) : BiD X (.builtin "repr") bRepr := ⟨_, call_reprD hr, fun W F A m σ H xs us P Q G rs q c => by
  unfold bRepr at q
  split at q
  · rename_i x
    obtain ⟨u, rfl, ru⟩ := rb1 rs
    exact ⟨u, toPy x, rfl, dp_of (rep_up G.ext ru), q.1.1, q.1.2.1, q.1.2.2, noDictD x, c F H _ _ (Same.refl _) G rep_str q.2⟩
  · exact q.elim⟩
theorem boot_repr : bootBuiltins "repr" = some (.builtin "repr") := by kernel_rfl
end
end RT

set_option maxRecDepth 100000
set_option maxHeartbeats 4000000
namespace RT
open PySem PySem.Spec PyProof.Rows L2

section
variable {X : Cx}
def mInsert : MOp := fun xs ys P => match ys with
  | [.int i, y] => xs.length < sizeLine ∧ 0 ≤ i ∧ i < 2 ^ 63 ∧ P (xs.take i.toNat ++ [y] ++ xs.drop i.toNat) .non
  | _ => False
end
end RT

set_option maxRecDepth 100000
set_option maxHeartbeats 4000000
namespace RT
open PySem PySem.Spec PyProof.Rows L2

section
variable {X : Cx}
def rEqT : DR2 := fun x y P => match x, y with
  | .str a, .str b => P (.bl (decide (a = b)))
  | _, _ => False
theorem o_eqT : OpD X (compareOp .Eq) rEqT := ⟨_, L2.op_eq, fun W F A m σ H x y u v P Q G rx ry q c => by
  unfold rEqT at q
  split at q
  · rename_i a b
    rw [repB_str rx, repB_str ry]
    have e : decide (V.str a = V.str b) = decide (a = b) := decide_eq_decide.mpr ⟨fun h => by injection h, fun h => by rw [h]⟩
    refine ⟨rfl, ?_⟩
    rw [e]
    exact c F H _ _ (Same.refl _) G rep_bl q
  · exact q.elim⟩
end
end RT

set_option maxRecDepth 100000
set_option maxHeartbeats 4000000
namespace RT
open PySem PySem.Spec PyProof.Rows L2

def dGxGo (isAll : Bool) (sl : List (Option Vl)) (slw : List (Option Vl)) (g : Tgt) (te : DE) (all : List Dt) (lk : Option Nat) (K : Bool → M → Prop) : List Dt → List Cell → Prop
  | [], st => lockOk lk all ⟨sl, st⟩ ∧ K isAll ⟨sl, st⟩
  | x :: xs, st => lockOk lk all ⟨sl, st⟩ ∧ tgD g (.d x) ⟨slw, st⟩ fun m1 => te m1 fun v m2 => match v with
    | .d (.bl b) => if b = isAll then dGxGo isAll sl slw g te all lk K xs m2.st else K b ⟨sl, m2.st⟩
    | _ => False
def dGx (isAll : Bool) (di : DI) (g : Tgt) (te : DE) (vs : List Nat) : DE := fun m Q => di m fun xs lk m1 => dGxGo isAll m1.sl (wipeD m1.sl vs) g te xs lk (fun b m2 => Q (.d (.bl b)) m2) xs m1.st
section
variable {X : Cx} {pos p gpos : Pos} {elt tg iter : Expr} {scope : Scope} {own' : List (Str × Nat)} {di : DI} {g : Tgt} {te : DE} {k : Nat}
structure GScope (scope : Scope) : Prop where
  co : scope.isCoroutine = false
  cell : ∀ y ∈ scope.names, y.2 ≠ .cell
  dot : scope.names.lookup (".0" : Str) = some NameKind.local
end

def dNever : DS := fun _ _ => False
end RT

set_option maxRecDepth 100000
set_option maxHeartbeats 4000000
namespace RT
open PySem PySem.Spec PyProof.Rows L2

def dZipT (ts : DA) : DI := fun m Q => ts m fun vs m1 => match vs with
  | [.d (.tup xs), .d (.tup ys)] => Q (zipD xs ys) none m1
  | _ => False
section
variable {X : Cx} {ts : DA} {e e2 : Expr} {p pos tpos : Pos} {elts : List Expr} {kk : Nat}
end
end RT

set_option maxRecDepth 100000
set_option maxHeartbeats 4000000
namespace RT
open PySem PySem.Spec PyProof.Rows L2
section
variable {X : Cx} {pos : Pos}
end
end RT

set_option maxRecDepth 100000
set_option maxHeartbeats 4000000
namespace RT
open PySem PySem.Spec PyProof.Rows L2
section
variable {X : Cx} {o e : Expr} {es : List Expr} {to : DE} {ts : DA} {pos : Pos}

end
end RT

set_option maxRecDepth 100000
set_option maxHeartbeats 4000000
namespace RT
open PySem PySem.Spec PyProof.Rows L2
section
variable {X : Cx} {pos : Pos} {e t1 t2 : Expr}
end
end RT

set_option maxRecDepth 100000
set_option maxHeartbeats 4000000
namespace RT
open PySem PySem.Spec PyProof.Rows L2
section
variable {X : Cx} {pos : Pos} {e tg : Expr} {te : DE}
def dAsgL (t : DE) (is : List Nat) : DS := fun E m => t m fun v m1 => match v with
  | .d (.lst xs) => xs.length = is.length ∧ E.nx ⟨setsD is xs m1.sl, m1.st⟩
  | _ => False
theorem lst_elim {v : Vl} {P : List Dt → Prop} (h : match v with
  | .d (.lst xs) => P xs
  | _ => False) : ∃ xs, v = .d (.lst xs) ∧ P xs := by
  split at h
  · exact ⟨_, rfl, h⟩
  · exact h.elim
theorem js_asgL {is : List Nat} (he : JE X e te) (hg : PG X tg (gLst X.K is.length (gNames is))) (hs : swapsWithSole [tg] e pos.line X.env = pure false := by rfl) (hw : swappedStores [tg] e X.env = pure none := by rfl)
    (h1 : (assignEach [tg] X.env).map (·.2) = [assign tg X.env] := by rfl) : JS X (.Assign [tg] e pos) (dAsgL te is) := by
  refine (ps_asg he hg hs hw h1).imp fun D σ H hh => ?_
  obtain ⟨W, F, A, m, E, G, h, c⟩ := hh
  refine ⟨W, F, A, m, _, G, h, fun F1 A1 v m1 H1 s1 p1 G1 q1 u r1 => ?_⟩
  obtain ⟨xs, rfl, hl, q⟩ := lst_elim q1
  have r' : Rep X.K F1 (.lst xs) u := r1
  simp only [Rep] at r'
  obtain ⟨a, vs, rfl, hr, rs⟩ := r'
  have hlv : vs.length = is.length := by rw [← rs.length]; exact hl
  exact ⟨a, vs, rfl, .inl (rd_mono G1.ext hr), hlv, gNames_ok hlv (c.nx F1 A1 _ _ H1 s1 p1 (G1.sets rs) q)⟩
end
end RT

set_option maxRecDepth 100000
set_option maxHeartbeats 4000000

namespace RT
open PySem PySem.Spec PyProof.Rows L2
section
variable {prog : Program} {w : World} {A : Around} {E : Value → Shared → Prop} {s : Shared}
end
section
variable {X : Cx}
end
end RT

set_option maxRecDepth 100000
set_option maxHeartbeats 4000000

namespace RT
open PySem PySem.Spec PyProof.Rows L2

def bmVE : List Value := [.type "ValueError", .type "Exception", .type "BaseException", .type "object"]
structure ExcF (K : PySem.W.Frag) (x : Str) (C : Addr) : Prop where
  at_ : PySem.W.nsIn K mainGlobals x = some (some (.ref C))
  ex : PySem.W.excIn K C bmVE "ValueError.__new__" = true
  kp : PySem.W.keepIn K (.ref C) = true
  sub : PySem.W.subIn K (.ref C) (.type "BaseException") = some true
  ty : PySem.W.typeIn K (.ref C) = some (.type "type")
  cc : ExcC K C

abbrev DX := M → (Str → M → Prop) → Prop
abbrev FSpecX := List Vl → List Cell → (Str → List Cell → Prop) → Prop
def liftX (K : PySem.W.Frag) (t : DX) (Wx : WX) : TS := fun _ σ H => ∃ W F A m QX, Good K W F A m σ H ∧ t m QX ∧
  ∀ F' A' m' σ' H' x v, Same F F' → A <+: A' → Good K W F' A' m' σ' H' → PySem.W.nsIn K mainGlobals x = some (some v) → QX x m' → Wx v none σ' H'
def liftSpX (K : PySem.W.Frag) (sp : FSpecX) : Sp := fun vs H _ E => ∃ W F A st args QX, Good K W F A ⟨[], st⟩ [] H ∧ RepVs K F A args vs ∧ sp args st QX ∧
  ∀ F' A' st' H' x v, Same F F' → A <+: A' → Good K W F' A' ⟨[], st'⟩ [] H' → PySem.W.nsIn K mainGlobals x = some (some v) → QX x st' → E v none H'
abbrev JXs (X : Cx) (Wx : WX) (e : List Stmt) (t : DX) : Prop := PSs X e (liftX X.K t Wx)
section
variable {X : Cx} {Wx : WX} {st : Stmt} {rest : List Stmt} {pos : Pos}

def FnX (P : Program) (w : World) (K : PySem.W.Frag) (mg : Str → Option Value) (base : Heap) (x : Str) (k : Nat) (sp : FSpecX) : Prop :=
  ∃ (f : Addr) (fd : FuncData) (ps : List Str), Fnn P w K mg base (L2.CX P w) k f fd ps (liftSpX K sp) ∧ mg x = some (.ref f) ∧ PySem.W.keepIn K (.ref f) = true ∧ Binds K fd ps []
end

def spXOf (n N : Nat) (b : DX) : FSpecX := fun args st QX => args.length = n ∧ b (startM N args st) fun x m => QX x (m.st.take st.length)
theorem mkX {P : Program} {w : World} {K : PySem.W.Frag} {mg : Str → Option Value} {base : Heap} {x y qual : Str} {params : Arguments} {body : List Stmt} {scope : Scope} {kws : List (Str × V)} {f : Addr} {fd : FuncData} {N ps : List Str} {k n m : Nat} {b : DX} (hns : BaseOk K mg base) (htr : P.given.tree = none)
    (F : FunD K y qual params body scope [] kws f fd) (hm : mg x = some (.ref f)) (S : FnScope N ps scope) (hn : ps.length = n) (hN : N.length = m)
    (hb : ∀ (kV doc pm : Value) (an : Option Addr) (cdv ct : Value) (us : List Value), us.length = ps.length → bindArgs (PySem.W.fnOf y qual params body scope .none kV doc pm an cdv ct) ⟨us, []⟩ = pure (ps.zip us))
    (hd : ∀ (X : Cx) (Wx : WX) (cdv : Value) (A : Around) (outer : List Env) (s : Shared) (H : Hp) (E : XK), X = cxOf (L2.CX P w) P w K mg base N qual scope f cdv A outer s H E → Takes X Wx → Amb k X → JXs X Wx body b) :
    FnX P w K mg base x (k + 1) (spXOf n m b) := by
  subst hn hN
  refine ⟨f, fd, ps, ?_, hm, F.kp, F.bindsN hb⟩
  obtain ⟨oc, od, dV, kV, doc, pm, an, cdv, ct, osl, rfl, lk, hcd, _, _⟩ := F.ex
  refine fnn_of hns htr lk hcd S (fun vs H Q E h => ?_) fun A outer s H vs Q E amb h => ?_
  · obtain ⟨W, F1, A1, st1, args, QX, G, r, q, c⟩ := h
    rw [← r.length]
    exact q.1
  · obtain ⟨W, F1, A1, st1, args, QX, G, r, q, c⟩ := h
    refine ⟨_, hd (cxOf (L2.CX P w) P w K mg base N qual scope f cdv A outer s H E) (fun cls d _ H => E cls d H) cdv A outer s H E rfl (takes_of rfl rfl rfl rfl) amb, ?_⟩
    have hl := r.length
    refine ⟨W, F1, A1, startM N.length args st1, _, ⟨G.ext, G.hid, G.dj, ?_, ?_, G.len, G.st, G.nd, G.tb⟩, q.2, ?_⟩
    · unfold startM L2.start
      simp [hl]
    · intro i v e
      unfold startM at e
      unfold L2.start
      rw [← hl]
      exact repVs_slots r _ i v e
    · intro F' A' m' σ' H' x v s' p' G' e q'
      have eA : A'.take st1.length = A1 := by rw [← G.len]; exact pre_take p'
      have G1 := G'.take st1.length
      rw [eA] at G1
      exact c F' A1 _ H' x v s' (pre_refl _) G1 e q'

section
variable {X : Cx} {i : Nat} {a : Addr} {rest : List Stmt} {pos : Pos}
abbrev CE (X : Cx) (i : Nat) (a : Addr) (e : Expr) (v : V) : Prop := PE X e fun σ H Q => σ[i]? = some (some (.ref a)) ∧ Q v H
end

end RT

set_option maxRecDepth 100000
set_option maxHeartbeats 4000000

namespace RT
open PySem PySem.Spec PyProof.Rows L2
section
variable {X : Cx} {a b : Expr} {ta tb : DE} {pos : Pos}
end
end RT

set_option maxRecDepth 100000
set_option maxHeartbeats 4000000

namespace RT
open PySem PySem.Spec PyProof.Rows L2
theorem inl_inj : ∀ {a b : List Int}, a.map (Sum.inl : Int → Key) = b.map Sum.inl → a = b
  | [], [], _ => rfl
  | [], _ :: _, e => by simp at e
  | _ :: _, [], e => by simp at e
  | x :: xs, y :: ys, e => by
    rw [List.map_cons, List.map_cons] at e
    injection e with e1 e2
    rw [Sum.inl.inj e1, inl_inj e2]
def hashIs (ks : List Int) : Int := reduceHash (Builtin.Tuple.tupleHashOf (ks.map hashInt))
theorem hashIs_eq (P : Program) (w : World) (ks : List Int) : tupleKeyHash (mixKind P w) (ks.map Sum.inl) = hashIs ks := by
  unfold tupleKeyHash hashIs
  rw [List.map_map]
  rfl
def intsB : List Int → List Value → Bool
  | [], [] => true
  | i :: r, .int j _ :: us => decide (i = j) && intsB r us
  | _, _ => false
def keyB (K : PySem.W.Frag) (b : Addr) (ks : List Int) : Bool := match K.lookup b with
  | some ⟨.type c, _, .seq its _, _⟩ => decide (c = "tuple") && intsB ks its.toList
  | _ => false
def entB (K : PySem.W.Frag) : List (List Int × Int) → List DictEntry → Bool
  | [], [] => true
  | (ks, v) :: r, ⟨h, .ref b, .int i _⟩ :: es => (decide (h = hashIs ks) && (keyB K b ks && decide (i = v))) && entB K r es
  | _, _ => false
def dctB (K : PySem.W.Frag) (x : Str) (kvs : List (List Int × Int)) : Bool := match PySem.W.nsIn K mainGlobals x with
  | some (some (.ref a)) => (!(a == sysModules) && decide ((kvs.map (·.1)).Nodup)) && (match K.lookup a with
    | some ⟨.type c, none, .dict es _, sl⟩ => (decide (c = "dict") && sl.isEmpty) && entB K kvs es.toList
    | _ => false)
  | _ => false
theorem intsB_ok {P : Program} {w : World} : ∀ {ks : List Int} {us : List Value}, intsB ks us = true → ItemsAre (mixKind P w) (ks.map Sum.inl) us
  | [], [], _ => .nil
  | [], _ :: _, h => by cases h
  | i :: r, [], h => by cases h
  | i :: r, u :: us, h => by
    cases u with
    | int j t =>
      obtain ⟨h1, h2⟩ := band (show (decide (i = j) && intsB r us) = true from h)
      have e := of_decide_eq_true h1
      subst e
      exact .cons (mixKind_int P w i t) (intsB_ok h2)
    | _ => cases h
theorem keyB_ok {P : Program} {w : World} {K : PySem.W.Frag} {b : Addr} {ks : List Int} (h : keyB K b ks = true) {hp : Heap} (X : K.In hp) : (tupleKind (mixKind P w)).is hp (ks.map Sum.inl) b := by
  unfold keyB at h
  split at h
  · rename_i c od its n sl e
    obtain ⟨h1, h2⟩ := band h
    exact ⟨_, its, n, X _ _ e, congrArg Value.type (of_decide_eq_true h1), rfl, intsB_ok h2⟩
  · cases h
structure DctF (K : PySem.W.Frag) (a : Addr) (kvs : List (List Int × Int)) : Prop where
  sm : (a == sysModules) = false
  nd : (kvs.map (·.1)).Nodup
  es : ∃ es n, K.lookup a = some ⟨.type "dict", none, .dict es n, #[]⟩ ∧ entB K kvs es.toList = true
def DctG (K : PySem.W.Frag) (mg : Str → Option Value) (x : Str) (kvs : List (List Int × Int)) : Prop := ∃ a, mg x = some (.ref a) ∧ DctF K a kvs
theorem dctG_of {K : PySem.W.Frag} {h : Heap} {mg : Str → Option Value} {x : Str} {kvs : List (List Int × Int)} (X : K.In h) (G : h.Ns mainGlobals mg) (c : dctB K x kvs = true) : DctG K mg x kvs := by
  unfold dctB at c
  split at c
  · rename_i a e
    obtain ⟨h1, h2⟩ := band c
    obtain ⟨h3, h4⟩ := band h1
    refine ⟨a, PySem.W.mg_of X G e, by simpa using h3, of_decide_eq_true h4, ?_⟩
    split at h2
    · rename_i c es n sl e2
      obtain ⟨h5, h6⟩ := band h2
      obtain ⟨h7, h8⟩ := band h5
      have e3 := of_decide_eq_true h7
      have e4 : sl = #[] := Array.isEmpty_iff.mp h8
      subst e3 e4
      exact ⟨es, n, e2, h6⟩
    · cases h2
  · cases c
theorem entB_ok {P : Program} {w : World} {K : PySem.W.Frag} {hp : Heap} (X : K.In hp) : ∀ {kvs : List (List Int × Int)} {es : List DictEntry}, entB K kvs es = true →
    ∃ xs : List (List Key × Addr × Value), es = xs.map (entryOfKey (tupleKind (mixKind P w))) ∧ (∀ x ∈ xs, (tupleKind (mixKind P w)).is hp x.1 x.2.1) ∧ xs.map (·.1) = kvs.map (fun p => p.1.map Sum.inl) ∧
      ∀ ks, ((atKey xs (ks.map Sum.inl)).map (·.2)).isSome = (kvs.lookup ks).isSome ∧ ∀ v, kvs.lookup ks = some v → ∃ p t, atKey xs (ks.map Sum.inl) = some p ∧ p.2 = .int v t
  | [], [], _ => ⟨[], rfl, (fun x h => by simp at h), rfl, (fun ks => ⟨rfl, fun v h => by simp at h⟩)⟩
  | [], _ :: _, h => by cases h
  | (ks, v) :: r, [], h => by cases h
  | (ks, v) :: r, e :: es, h => by
    obtain ⟨hh, key, val⟩ := e
    cases key with
    | ref b =>
      cases val with
      | int i t =>
        obtain ⟨h1, h2⟩ := band (show ((decide (hh = hashIs ks) && (keyB K b ks && decide (i = v))) && entB K r es) = true from h)
        obtain ⟨h3, h4⟩ := band h1
        obtain ⟨h5, h6⟩ := band h4
        have e1 := of_decide_eq_true h3
        have e2 := of_decide_eq_true h6
        subst e1 e2
        obtain ⟨xs, q1, q2, q3, q4⟩ := entB_ok (P := P) (w := w) X h2
        refine ⟨(ks.map Sum.inl, b, .int i t) :: xs, ?_, ?_, ?_, ?_⟩
        · rw [List.map_cons, ← q1]
          unfold entryOfKey
          rw [← hashIs_eq P w ks]
          rfl
        · intro x hx
          rcases List.mem_cons.mp hx with rfl | hx
          · exact keyB_ok h5 X
          · exact q2 x hx
        · rw [List.map_cons, List.map_cons, q3]
        · intro js
          have inj : ∀ {a b : List Int}, (a.map (Sum.inl : Int → Key)) = b.map Sum.inl → a = b := fun {a b} e => by
            exact inl_inj e
          by_cases c : js = ks
          · subst c
            have a1 : atKey ((js.map Sum.inl, b, Value.int i t) :: xs) (js.map Sum.inl) = some (b, .int i t) := by
              unfold atKey
              rw [List.find?_cons_of_pos (by simp)]
              rfl
            rw [a1, List.lookup_cons, beq_self_eq_true]
            exact ⟨rfl, fun v hv => by cases hv; exact ⟨_, t, rfl, rfl⟩⟩
          · have a1 : atKey ((ks.map Sum.inl, b, Value.int i t) :: xs) (js.map Sum.inl) = atKey xs (js.map Sum.inl) := by
              unfold atKey
              rw [List.find?_cons_of_neg (by simpa using fun z => c (inj z).symm)]
            rw [a1, List.lookup_cons, show (js == ks) = false from beq_eq_false_iff_ne.mpr c]
            exact q4 js
      | _ => cases h
    | _ => cases h

def keysO (o : Obj) : List Addr := match o.data with
  | .dict es _ => es.toList.flatMap fun e => He.refV e.key
  | _ => []
def asK (g : Addr → Option Obj) (as : List Addr) : List Addr := (as ++ as.flatMap fun a => match g a with
  | some o => keysO o
  | none => []).eraseDups
def obsK (n : Nat) (fa : List He.Fa) (fn : List He.DefD) (xb : PySem.W.Frag → Bool) (g : Addr → Option Obj) : AlR := (xb (frN g (asK g (He.asD g n))) && tabsBK g (frN g (asK g (He.asD g n))), He.obsD fa fn (frN g (asK g (He.asD g n))))
def hookK (n : Nat) (fa : List He.Fa) (fn : List He.DefD) (xb : PySem.W.Frag → Bool) : PySem.W.Hook where
  α := AlR
  obs := fun s => obsK n fa fn xb s.heap.get?
  val := fun _ => (true, He.valD fn)
  says := fun _ h => ∃ K : PySem.W.Frag, K.In h ∧ NoLst K ∧ TabsOk K h ∧ xb K = true ∧ He.SaysD fa fn K
  of := fun _ _ e => ⟨_, frN_in, fun _ _ e => (frN_mem e).2.1, tabsBK_ok (Bool.and_eq_true_iff.mp (congrArg Prod.fst e)).2, (Bool.and_eq_true_iff.mp (congrArg Prod.fst e)).1, congrArg Prod.snd e⟩
  keeps := fun _ _ _ ⟨K, hK, n, t, x, c⟩ k => ⟨K, PySem.W.Frag.In.keeps hK k, n, ⟨t.cd, t.out, fun q hq => k _ _ (t.get q hq)⟩, x, c⟩
theorem obsK_eq {n : Nat} {fa : List He.Fa} {fn : List He.DefD} {xb : PySem.W.Frag → Bool} {g : Addr → Option Obj} {s : Shared} (h : ∀ a, g a = s.heap.get? a) : obsK n fa fn xb g = (hookK n fa fn xb).obs s := by
  have e : g = s.heap.get? := funext h
  rw [e] <;> rfl

def ovW (w : World) (b : Bool) : World := ⟨w.draws, { w.params with followText := fun r => if r = "special-get-raises" then b else w.params.followText r }⟩
theorem ovW_eq (w : World) : ovW w (w.params.followText "special-get-raises") = w := by
  unfold ovW
  have : (fun r => if r = "special-get-raises" then w.params.followText "special-get-raises" else w.params.followText r) = w.params.followText := by
    funext r
    by_cases c : r = "special-get-raises"
    · rw [if_pos c, c]
    · rw [if_neg c]
  rw [this]
section
variable {X : Cx}
def intsD : List Dt → Option (List Int)
  | [] => some []
  | .int i :: r => (intsD r).map (i :: ·)
  | _ :: _ => none
theorem intsD_ok {K : PySem.W.Frag} {F : Hp} : ∀ {ds : List Dt} {ks : List Int} {vs : List V}, intsD ds = some ks → Reps K F ds vs → vs = ks.map V.int
  | [], ks, vs, e, r => by
    cases e
    simp only [Reps] at r
    exact r
  | d :: ds, ks, vs, e, r => by
    cases d with
    | int i =>
      obtain ⟨js, e1, e2⟩ := Option.map_eq_some_iff.mp (show (intsD ds).map (i :: ·) = some ks from e)
      subst e2
      simp only [Reps] at r
      obtain ⟨v, rr, rfl, h1, h2⟩ := r
      simp only [Rep] at h1
      rw [h1, intsD_ok e1 h2, List.map_cons]
    | _ => cases e
def onK (v : Vl) (k : List Int → Prop) : Prop := match v with
  | .d (.tup ds) => match intsD ds with
    | some ks => k ks
    | none => False
  | _ => False
theorem onK_elim {v : Vl} {k : List Int → Prop} (h : onK v k) : ∃ ds ks, v = .d (.tup ds) ∧ intsD ds = some ks ∧ k ks := by
  unfold onK at h
  split at h
  · split at h
    · exact ⟨_, _, rfl, by assumption, h⟩
    · exact h.elim
  · exact h.elim
@[irreducible] def dInK (kvs : List (List Int × Int)) (te : DE) : DE := fun m Q => te m fun v m1 => onK v fun ks => Q (.d (.bl (kvs.lookup ks).isSome)) m1
@[irreducible] def dGetK (kvs : List (List Int × Int)) (te : DE) : DE := fun m Q => te m fun v m1 => onK v fun ks => ∃ v, kvs.lookup ks = some v ∧ Q (.d (.int v)) m1
theorem key_at {pins} {s : Shared} {σ : L2.St} {H : Hp} {W F : Hp} {A : List Addr} {m : M} (I : Inv X pins σ H s) (G : Good X.K W F A m σ H) {ds : List Dt} {ks : List Int} {u : V} (e : intsD ds = some ks) (r : Rep X.K F (.tup ds) u) :
    ∃ b, u = .ref b ∧ (tupleKind (mixKind X.prog X.w)).is s.heap (ks.map Sum.inl) b := by
  simp only [Rep] at r
  obtain ⟨b, vs, e1, sq, rs⟩ := r
  refine ⟨b, e1, ?_⟩
  rw [intsD_ok e rs] at sq
  obtain ⟨its, rv, ht, _⟩ := I.tuple (seqT_mono G.ext sq)
  obtain ⟨o, h1, h2, n, h3⟩ := ht
  refine ⟨o, its.toArray, n, h1, h2, h3, ?_⟩
  have : (ks.map V.int) = (ks.map (Sum.inl : Int → Key)).map kV := by
    rw [List.map_map]
    rfl
  rw [this] at rv
  simpa using items_are rv
theorem dict_at {pins} {s : Shared} {σ : L2.St} {H : Hp} (I : Inv X pins σ H s) {a : Addr} {kvs : List (List Int × Int)} (f : DctF X.K a kvs) :
    ∃ xs : List (List Key × Addr × Value), s.heap.DictOfH (tupleKind (mixKind X.prog X.w)) a xs ∧
      ∀ ks, ((atKey xs (ks.map Sum.inl)).map (·.2)).isSome = (kvs.lookup ks).isSome ∧ ∀ v, kvs.lookup ks = some v → ∃ p t, atKey xs (ks.map Sum.inl) = some p ∧ p.2 = .int v t := by
  obtain ⟨es, n, hl, hb⟩ := f.es
  obtain ⟨xs, q1, q2, q3, q4⟩ := entB_ok (P := X.prog) (w := X.w) I.kIn hb
  refine ⟨xs, ⟨_, es, n, I.kIn _ _ hl, ⟨rfl, rfl, rfl⟩, rfl, q1, q2, ?_⟩, q4⟩
  rw [q3]
  have nd := f.nd
  rw [show (fun p : List Int × Int => p.1.map (Sum.inl : Int → Key)) = (fun ks : List Int => ks.map (Sum.inl : Int → Key)) ∘ (·.1) from rfl, ← List.map_map]
  refine List.Pairwise.map _ (fun a b h => ?_) nd
  intro z
  exact h (inl_inj z)
variable {x : Str} {p pos : Pos} {e : Expr} {te : DE} {kvs : List (List Int × Int)}
theorem pc_inK (hu : X.A.units + 1 < cLine) (d : DctG X.K X.mg x kvs) (hg : Gl X x) (hd : (x == ("__debug__" : Str)) = false) (he : JE X e te) : PC X .In e (.Name x p) (lift X.K (dInK kvs te)) := by
  obtain ⟨a, hm, f⟩ := d
  refine ⟨fun pins s σ H Q I h => ?_⟩
  obtain ⟨W, F, A, m, Qd, G, h, c⟩ := h
  unfold dInK at h
  refine thn (he.run pins s σ H (fun u H1 => ∃ F1 A1 m1 ds ks, Same F F1 ∧ A <+: A1 ∧ Good X.K W F1 A1 m1 σ H1 ∧ intsD ds = some ks ∧ Rep X.K F1 (.tup ds) u ∧ Qd (.d (.bl (kvs.lookup ks).isSome)) m1) I ⟨W, F, A, m, _, G, h, fun F1 A1 v m1 H1 s1 p1 G1 q1 u r1 => ?_⟩) fun iv s1 ⟨y, H1, I1, ry, F1, A1, m1, ds, ks, s1', p1, G1, e1, r1, q1⟩ => ?_
  · obtain ⟨ds, ks, rfl, e1, q1⟩ := onK_elim q1
    exact ⟨F1, A1, m1, ds, ks, s1, p1, G1, e1, r1, q1⟩
  refine thn ((pe_glob (v := .ref a) hg hm rfl hd (pos := p)).run pins s1 σ H1 (fun x H2 => x = .ref a ∧ H2 = H1) I1 ⟨rfl, rfl⟩) fun u s2 ⟨x, H2, I2, rx, ex, eH⟩ => ?_
  subst ex eH
  obtain rfl : u = Value.ref a := rx
  obtain ⟨b, rfl, hk⟩ := key_at I2 G1 e1 r1
  obtain rfl : iv = Value.ref b := ry
  obtain ⟨xs, dd, q4⟩ := dict_at I2 f
  refine wpAny_in_heap (tupleKind_room_in1 hu) hk f.sm dd ?_
  have q := (q4 ks).1
  rw [Option.isSome_map] at q
  rw [q]
  exact ⟨.bl (kvs.lookup ks).isSome, H2, I2.tok _, rfl, c F1 A1 (.d (.bl (kvs.lookup ks).isSome)) m1 H2 s1' p1 G1 q1 (.bl (kvs.lookup ks).isSome) (rep_bl (K := X.K) (F := F1))⟩
theorem jt_inK {k : Nat} (hr : GRoom k X.A) (d : DctG X.K X.mg x kvs) (hg : Gl X x) (he : JE X e te) (hd : (x == ("__debug__" : Str)) = false := by decide) : JT X (.Compare e [.In] [.Name x p] pos) (dTest (dInK kvs te)) := by
  refine (pt_cmp (pc_inK (by have := hr.hu; omega) d hg hd he) rfl).imp fun σ H Q h => ?_
  obtain ⟨W, F, A, m, Qd, G, h, c⟩ := h
  refine ⟨W, F, A, m, _, G, h, fun F1 A1 v m1 H1 s1 p1 G1 q1 u r1 => ?_⟩
  obtain ⟨b, rfl, q⟩ := dTest_elim q1
  have r1' : Rep X.K F1 (.bl b) u := r1
  simp only [Rep] at r1'
  exact ⟨b, r1', c F1 A1 b m1 H1 s1 p1 G1 q⟩
theorem je_getK {k : Nat} (hr : GRoom k X.A) (d : DctG X.K X.mg x kvs) (hg : Gl X x) (he : JE X e te) (hs : NoSl e := by intro _ _; rfl) (hd : (x == ("__debug__" : Str)) = false := by decide) : JE X (.Subscript (.Name x p) e pos) (dGetK kvs te) := by
  have hu : X.A.units + 1 < cLine := by have := hr.hu; omega
  obtain ⟨a, hm, f⟩ := d
  refine ⟨fun pins s σ H Q I h => ?_⟩
  obtain ⟨W, F, A, m, Qd, G, h, c⟩ := h
  unfold dGetK at h
  refine subD_of PySem.F.slot_dict_getitem.lookup hs ?_
  refine thn ((pe_glob (v := .ref a) hg hm rfl hd (pos := p)).run pins s σ H (fun x H2 => x = .ref a ∧ H2 = H) I ⟨rfl, rfl⟩) fun u s2 ⟨x, H2, I2, rx, ex, eH⟩ => ?_
  subst ex eH
  obtain rfl : u = Value.ref a := rx
  refine thn (he.run pins s2 σ H2 (fun u H1 => ∃ F1 A1 m1 ds ks v, Same F F1 ∧ A <+: A1 ∧ Good X.K W F1 A1 m1 σ H1 ∧ intsD ds = some ks ∧ Rep X.K F1 (.tup ds) u ∧ kvs.lookup ks = some v ∧ Qd (.d (.int v)) m1) I2 ⟨W, F, A, m, _, G, h, fun F1 A1 v m1 H1 s1 p1 G1 q1 u r1 => ?_⟩) fun iv s1 ⟨y, H1, I1, ry, F1, A1, m1, ds, ks, v, s1', p1, G1, e1, r1, l1, q1⟩ => ?_
  · obtain ⟨ds, ks, rfl, e1, v, l1, q1⟩ := onK_elim q1
    exact ⟨F1, A1, m1, ds, ks, v, s1, p1, G1, e1, r1, l1, q1⟩
  obtain ⟨b, rfl, hk⟩ := key_at I1 G1 e1 r1
  obtain rfl : iv = Value.ref b := ry
  obtain ⟨xs, dd, q4⟩ := dict_at I1 f
  obtain ⟨pp, t, hp, hv⟩ := (q4 ks).2 v l1
  refine ⟨dd.typeIs, wpAny_getItem_heap (tupleKind_room_in1 hu) hk dd hp ?_⟩
  rw [hv]
  exact ⟨.int v, H1, I1.tok _, ⟨t, rfl⟩, c F1 A1 (.d (.int v)) m1 H1 s1' p1 G1 q1 (.int v) (rep_int (K := X.K) (F := F1) (i := v))⟩
end
end RT

set_option maxRecDepth 100000
set_option maxHeartbeats 4000000

namespace RT
open PySem PySem.Spec PyProof.Rows L2
section
variable {X : Cx}
end
end RT

set_option maxRecDepth 100000
set_option maxHeartbeats 4000000
namespace PG
open PySem PySem.Spec PyProof.Rows L2 RT

def w_common_divisor : DS := (dSeq (dSet 2 (dBi bAbs (dCons (dVar 0) dNil)))
  (dSeq (dSet 3 (dBi bAbs (dCons (dVar 1) dNil)))
  (dSeq (dWhile (dTest (dOp rGt (dVar 3) (dC (.int 0))))
  (dPar 2 3 (dCons (dVar 3) (dCons (dOp rMod (dVar 2) (dVar 3)) dNil))))
  (dRet (dVar 2)))))
@[irreducible] def sp_common_divisor : FSpec := spOf false 2 4 w_common_divisor

def w_fraction : DS := (dSeq (dSet 2 (dCall PG.sp_common_divisor [] (dCons (dVar 0) (dCons (dVar 1) dNil))))
  (dSeq (dIfS (dTest (dOp rLt (dVar 1) (dC (.int 0))))
  (dSet 2 (rU rNeg (dVar 2)))
  dNext)
  (dRet (dTup (dCons (dOp rDiv (dVar 0) (dVar 2)) (dCons (dOp rDiv (dVar 1) (dVar 2)) dNil))))))
@[irreducible] def sp_fraction : FSpec := spOf false 2 3 w_fraction

def w_add : DS := (dRet (dCall PG.sp_fraction [] (dCons (dOp rAddA (dOp rMul (dOp rIx (dVar 0) (dC (.int 0))) (dOp rIx (dVar 1) (dC (.int 1)))) (dOp rMul (dOp rIx (dVar 1) (dC (.int 0))) (dOp rIx (dVar 0) (dC (.int 1))))) (dCons (dOp rMul (dOp rIx (dVar 0) (dC (.int 1))) (dOp rIx (dVar 1) (dC (.int 1)))) dNil))))
@[irreducible] def sp_add : FSpec := spOf false 2 2 w_add

def w_negative : DS := (dRet (dTup (dCons (rU rNeg (dOp rIx (dVar 0) (dC (.int 0)))) (dCons (dOp rIx (dVar 0) (dC (.int 1))) dNil))))
@[irreducible] def sp_negative : FSpec := spOf false 1 1 w_negative

def w_subtract : DS := (dRet (dCall PG.sp_add [] (dCons (dVar 0) (dCons (dCall PG.sp_negative [] (dCons (dVar 1) dNil)) dNil))))
@[irreducible] def sp_subtract : FSpec := spOf false 2 2 w_subtract

def w_multiply : DS := (dRet (dCall PG.sp_fraction [] (dCons (dOp rMul (dOp rIx (dVar 0) (dC (.int 0))) (dOp rIx (dVar 1) (dC (.int 0)))) (dCons (dOp rMul (dOp rIx (dVar 0) (dC (.int 1))) (dOp rIx (dVar 1) (dC (.int 1)))) dNil))))
@[irreducible] def sp_multiply : FSpec := spOf false 2 2 w_multiply

def w_divide : DS := (dRet (dCall PG.sp_fraction [] (dCons (dOp rMul (dOp rIx (dVar 0) (dC (.int 0))) (dOp rIx (dVar 1) (dC (.int 1)))) (dCons (dOp rMul (dOp rIx (dVar 0) (dC (.int 1))) (dOp rIx (dVar 1) (dC (.int 0)))) dNil))))
@[irreducible] def sp_divide : FSpec := spOf false 2 2 w_divide

def w_sign : DS := (dSeq (dIfS (dTest (dOp rGt (dOp rIx (dVar 0) (dC (.int 0))) (dC (.int 0))))
  (dRet (dC (.int 1)))
  dNext)
  (dSeq (dIfS (dTest (dOp rLt (dOp rIx (dVar 0) (dC (.int 0))) (dC (.int 0))))
  (dRet (rU rNeg (dC (.int 1))))
  dNext)
  (dRet (dC (.int 0)))))
@[irreducible] def sp_sign : FSpec := spOf false 1 1 w_sign

def w_compare : DS := (dRet (dCall PG.sp_sign [] (dCons (dCall PG.sp_subtract [] (dCons (dVar 0) (dCons (dVar 1) dNil))) dNil)))
@[irreducible] def sp_compare : FSpec := spOf false 2 2 w_compare

def w_is_less : DS := (dRet (dOp rLt (dCall PG.sp_compare [] (dCons (dVar 0) (dCons (dVar 1) dNil))) (dC (.int 0))))
@[irreducible] def sp_is_less : FSpec := spOf false 2 2 w_is_less

def w_is_at_most : DS := (dRet (dOp rLe (dCall PG.sp_compare [] (dCons (dVar 0) (dCons (dVar 1) dNil))) (dC (.int 0))))
@[irreducible] def sp_is_at_most : FSpec := spOf false 2 2 w_is_at_most

def w__law_cell : DS := (dSeq (dIfS (dTest (dOp rLt (dVar 1) (dBi bLen (dCons (dVar 0) dNil))))
  (dRet (dOp rIx (dVar 0) (dVar 1)))
  dNext)
  (dRet (dC (.int 0))))
@[irreducible] def sp__law_cell : FSpec := spOf false 2 2 w__law_cell

def w__law_less : DS := (dRet (dOp rLt (dOp rMul (dOp rIx (dVar 0) (dC (.int 0))) (dOp rIx (dVar 1) (dC (.int 1)))) (dOp rMul (dOp rIx (dVar 1) (dC (.int 0))) (dOp rIx (dVar 0) (dC (.int 1))))))
@[irreducible] def sp__law_less : FSpec := spOf false 2 2 w__law_less

def v_ZERO : Dt := .tup [.int 0, .int 1]

def w_least_of : DS := (dSeq (dSet 1 (dC .non))
  (dSeq (dFor (dAny (dVar 0)) (.nm 2)
  (dIfS (dAnd (dTest (dNotN (dVar 2))) (dOr (dTest (dIsN (dVar 1))) (dTru (dCall PG.sp_is_less [] (dCons (dVar 2) (dCons (dVar 1) dNil))))))
  (dSet 1 (dVar 2))
  dNext))
  (dRet (dVar 1))))
@[irreducible] def sp_least_of : FSpec := spOf false 1 3 w_least_of

def w_nearest_to_zero : DS := (dSeq (dIfS (dAnd (dTest (dNotN (dVar 0))) (dTest (dOp rGt (dCall PG.sp_sign [] (dCons (dVar 0) dNil)) (dC (.int 0)))))
  (dRet (dVar 0))
  dNext)
  (dSeq (dIfS (dAnd (dTest (dNotN (dVar 1))) (dTest (dOp rLt (dCall PG.sp_sign [] (dCons (dVar 1) dNil)) (dC (.int 0)))))
  (dRet (dVar 1))
  dNext)
  (dRet (dC PG.v_ZERO))))
@[irreducible] def sp_nearest_to_zero : FSpec := spOf false 2 2 w_nearest_to_zero

def v_ONE : Dt := .tup [.int 1, .int 1]

def v_IDENTITY : Dt := .tup [.tup [.int 1, .int 1], .tup [.int 0, .int 1], .tup [.int 0, .int 1], .tup [.int 1, .int 1], .tup [.int 0, .int 1], .tup [.int 0, .int 1]]

def w_element_map : DS := (dSeq (dIfS (dTest (dOp rEq (dOp rIx (dVar 0) (dC (.int 0))) (dC (.str ("gap" : Str)))))
  (dRet (dTup (dCons (dC PG.v_ONE) (dCons (dOp rIx (dVar 0) (dC (.int 1))) (dCons (dC PG.v_ZERO) (dCons (dC PG.v_ONE) (dCons (dC PG.v_ZERO) (dCons (dC PG.v_ZERO) dNil))))))))
  dNext)
  (dSeq (dIfS (dTest (dOp rEq (dOp rIx (dVar 0) (dC (.int 0))) (dC (.str ("lens" : Str)))))
  (dRet (dTup (dCons (dC PG.v_ONE) (dCons (dC PG.v_ZERO) (dCons (dCall PG.sp_negative [] (dCons (dOp rIx (dVar 0) (dC (.int 1))) dNil)) (dCons (dC PG.v_ONE) (dCons (dC PG.v_ZERO) (dCons (dCall PG.sp_multiply [] (dCons (dOp rIx (dVar 0) (dC (.int 1))) (dCons (dOp rIx (dVar 0) (dC (.int 2))) dNil))) dNil))))))))
  dNext)
  (dSeq (dIfS (dTest (dOp rEq (dOp rIx (dVar 0) (dC (.int 0))) (dC (.str ("prism" : Str)))))
  (dRet (dTup (dCons (dC PG.v_ONE) (dCons (dC PG.v_ZERO) (dCons (dC PG.v_ZERO) (dCons (dC PG.v_ONE) (dCons (dC PG.v_ZERO) (dCons (dOp rIx (dVar 0) (dC (.int 1))) dNil))))))))
  dNext)
  (dSeq (dIfS (dTest (dOp rEq (dOp rIx (dVar 0) (dC (.int 0))) (dC (.str ("afocal" : Str)))))
  (dRet (dTup (dCons (dOp rIx (dVar 0) (dC (.int 1))) (dCons (dC PG.v_ZERO) (dCons (dC PG.v_ZERO) (dCons (dCall PG.sp_divide [] (dCons (dC PG.v_ONE) (dCons (dOp rIx (dVar 0) (dC (.int 1))) dNil))) (dCons (dC PG.v_ZERO) (dCons (dC PG.v_ZERO) dNil))))))))
  dNext)
  (dRet (dC PG.v_IDENTITY))))))
@[irreducible] def sp_element_map : FSpec := spOf false 1 1 w_element_map

def w_weighted : DS := (dRet (dCall PG.sp_add [] (dCons (dCall PG.sp_multiply [] (dCons (dVar 0) (dCons (dVar 1) dNil))) (dCons (dCall PG.sp_multiply [] (dCons (dVar 2) (dCons (dVar 3) dNil))) dNil))))
@[irreducible] def sp_weighted : FSpec := spOf false 4 4 w_weighted

def w_apply_map : DS := (dSeq (dAsg (dVar 0) (.tp [2, 3, 4, 5, 6, 7]))
  (dRet (dTup (dCons (dCall PG.sp_add [] (dCons (dCall PG.sp_weighted [] (dCons (dVar 2) (dCons (dOp rIx (dVar 1) (dC (.int 0))) (dCons (dVar 3) (dCons (dOp rIx (dVar 1) (dC (.int 1))) dNil))))) (dCons (dVar 6) dNil))) (dCons (dCall PG.sp_add [] (dCons (dCall PG.sp_weighted [] (dCons (dVar 4) (dCons (dOp rIx (dVar 1) (dC (.int 0))) (dCons (dVar 5) (dCons (dOp rIx (dVar 1) (dC (.int 1))) dNil))))) (dCons (dVar 7) dNil))) dNil)))))
@[irreducible] def sp_apply_map : FSpec := spOf false 2 8 w_apply_map

def w_compose_maps : DS := (dSeq (dAsg (dVar 0) (.tp [2, 3, 4, 5, 6, 7]))
  (dSeq (dAsg (dVar 1) (.tp [8, 9, 10, 11, 12, 13]))
  (dSeq (dSet 14 (dTup (dCons (dCall PG.sp_weighted [] (dCons (dVar 8) (dCons (dVar 2) (dCons (dVar 9) (dCons (dVar 4) dNil))))) (dCons (dCall PG.sp_weighted [] (dCons (dVar 8) (dCons (dVar 3) (dCons (dVar 9) (dCons (dVar 5) dNil))))) dNil))))
  (dSeq (dSet 15 (dTup (dCons (dCall PG.sp_weighted [] (dCons (dVar 10) (dCons (dVar 2) (dCons (dVar 11) (dCons (dVar 4) dNil))))) (dCons (dCall PG.sp_weighted [] (dCons (dVar 10) (dCons (dVar 3) (dCons (dVar 11) (dCons (dVar 5) dNil))))) dNil))))
  (dSeq (dSet 16 (dTup (dCons (dCall PG.sp_add [] (dCons (dCall PG.sp_weighted [] (dCons (dVar 8) (dCons (dVar 6) (dCons (dVar 9) (dCons (dVar 7) dNil))))) (dCons (dVar 12) dNil))) (dCons (dCall PG.sp_add [] (dCons (dCall PG.sp_weighted [] (dCons (dVar 10) (dCons (dVar 6) (dCons (dVar 11) (dCons (dVar 7) dNil))))) (dCons (dVar 13) dNil))) dNil))))
  (dRet (dOp rAddA (dOp rAddA (dVar 14) (dVar 15)) (dVar 16))))))))
@[irreducible] def sp_compose_maps : FSpec := spOf false 2 17 w_compose_maps

def w_ray_transfer : DS := (dSeq (dSet 1 (dC PG.v_IDENTITY))
  (dSeq (dFor (dAny (dVar 0)) (.nm 2)
  (dSet 1 (dCall PG.sp_compose_maps [] (dCons (dVar 1) (dCons (dCall PG.sp_element_map [] (dCons (dVar 2) dNil)) dNil)))))
  (dRet (dVar 1))))
@[irreducible] def sp_ray_transfer : FSpec := spOf false 1 3 w_ray_transfer

def w__law_row : DS := (dSeq (dSet 3 (dLstO dNil))
  (dSeq (dIfS (dTest (dOp rLt (dVar 0) (dC (.int 0))))
  (dSet 0 (dOp rSub (dC (.int 1)) (dOp rMul (dC (.int 2)) (dVar 0))))
  dNext)
  (dSeq (dIfS (dTest (dOp rGe (dVar 0) (dOp rPow (dC (.int 10)) (dC (.int 18)))))
  (dSeq (dFor (dRange1 (dCons (dC (.int 60)) dNil)) (.nm 4)
  (dIfS (dAnd (dTest (dOp rGt (dVar 0) (dC (.int 0)))) (dTest (dOp rLt (dBi bLen (dCons (dVar 3) dNil)) (dVar 2))))
  (dSeq (dDo (dMeth mAppend (dVar 3) (dCons (dOp rMod (dBi bInt (dCons (dVar 0) dNil)) (dC (.int 1000))) dNil)))
  (dSet 0 (dOp rDiv (dVar 0) (dC (.int 1000)))))
  dNext))
  (dRet (dVar 3)))
  dNext)
  (dSeq (dSet 5 (dOp rMod (dBi bInt (dCons (dOp rAddA (dOp rAddA (dOp rMul (dVar 0) (dC (.int 48271))) (dOp rMul (dVar 1) (dC (.int 69621)))) (dC (.int 11))) dNil)) (dC (.int 2147483647))))
  (dSeq (dFor (dRange1 (dCons (dVar 2) dNil)) (.nm 4)
  (dSeq (dSet 5 (dOp rMod (dBi bInt (dCons (dOp rAddA (dOp rAddA (dOp rMul (dVar 5) (dC (.int 16807))) (dOp rMul (dC (.int 7)) (dVar 4))) (dC (.int 1))) dNil)) (dC (.int 2147483647))))
  (dDo (dMeth mAppend (dVar 3) (dCons (dOp rMod (dBi bInt (dCons (dOp rDiv (dVar 5) (dC (.int 997))) dNil)) (dC (.int 1000))) dNil)))))
  (dRet (dVar 3)))))))
@[irreducible] def sp__law_row : FSpec := spOf false 3 6 w__law_row

def w__law_box : DS := (dSeq (dSet 3 (dLst dNil))
  (dSeq (dFor (dRange2 (dCons (dVar 1) (dCons (dVar 2) dNil))) (.nm 4)
  (dSet 3 (dOp rAddA (dVar 3) (dCall PG.sp__law_row [] (dCons (dCall PG.sp__law_cell [] (dCons (dVar 0) (dCons (dVar 4) dNil))) (dCons (dVar 4) (dCons (dC (.int 12)) dNil)))))))
  (dRet (dLstO (dCons (dVar 3) (dCons (dC (.int 0)) dNil))))))
@[irreducible] def sp__law_box : FSpec := spOf true 3 5 w__law_box

def w__law_draw_2 : DS := (dSeq (dSet 2 (dOp rIx (dVar 0) (dC (.int 1))))
  (dSeq (dSetIx (dOp rAddA (dVar 2) (dC (.int 1))) (dVar 0) (dC (.int 1)))
  (dSeq (dIfS (dTest (dOp rLt (dVar 2) (dBi bLen (dCons (dOp rIx (dVar 0) (dC (.int 0))) dNil))))
  (dRet (dOp rMod (dBi bInt (dCons (dOp rIx (dOp rIx (dVar 0) (dC (.int 0))) (dVar 2)) dNil)) (dVar 1)))
  dNext)
  (dRet (dOp rMod (dBi bInt (dCons (dOp rAddA (dOp rMul (dVar 2) (dC (.int 7))) (dC (.int 3))) dNil)) (dVar 1))))))
@[irreducible] def sp__law_draw_2 : FSpec := spOf false 2 3 w__law_draw_2

def w__law_same : DS := (dRet (dOp rEqT (dBi bRepr (dCons (dVar 0) dNil)) (dBi bRepr (dCons (dVar 1) dNil))))
@[irreducible] def sp__law_same : FSpec := spOf false 2 2 w__law_same

def w__law_frac : DS := (dSeq (dSet 2 (dBi bAbs (dCons (dVar 0) dNil)))
  (dSeq (dSet 3 (dBi bAbs (dCons (dVar 1) dNil)))
  (dSeq (dWhile (dTest (dOp rGt (dVar 3) (dC (.int 0))))
  (dPar 2 3 (dCons (dVar 3) (dCons (dOp rMod (dBi bInt (dCons (dVar 2) dNil)) (dBi bInt (dCons (dVar 3) dNil))) dNil))))
  (dSeq (dIfS (dTest (dOp rLt (dVar 1) (dC (.int 0))))
  (dSet 2 (rU rNeg (dVar 2)))
  dNext)
  (dRet (dTup (dCons (dOp rDiv (dVar 0) (dVar 2)) (dCons (dOp rDiv (dVar 1) (dVar 2)) dNil))))))))
@[irreducible] def sp__law_frac : FSpec := spOf false 2 4 w__law_frac

def w__law_add_2 : DS := (dRet (dCall PG.sp__law_frac [] (dCons (dOp rAddA (dOp rMul (dOp rIx (dVar 0) (dC (.int 0))) (dOp rIx (dVar 1) (dC (.int 1)))) (dOp rMul (dOp rIx (dVar 1) (dC (.int 0))) (dOp rIx (dVar 0) (dC (.int 1))))) (dCons (dOp rMul (dOp rIx (dVar 0) (dC (.int 1))) (dOp rIx (dVar 1) (dC (.int 1)))) dNil))))
@[irreducible] def sp__law_add_2 : FSpec := spOf false 2 2 w__law_add_2

def w__law_neg : DS := (dRet (dTup (dCons (rU rNeg (dOp rIx (dVar 0) (dC (.int 0)))) (dCons (dOp rIx (dVar 0) (dC (.int 1))) dNil))))
@[irreducible] def sp__law_neg : FSpec := spOf false 1 1 w__law_neg

def w__law_sub_2 : DS := (dRet (dCall PG.sp__law_add_2 [] (dCons (dVar 0) (dCons (dCall PG.sp__law_neg [] (dCons (dVar 1) dNil)) dNil))))
@[irreducible] def sp__law_sub_2 : FSpec := spOf false 2 2 w__law_sub_2

def w__law_mul_2 : DS := (dRet (dCall PG.sp__law_frac [] (dCons (dOp rMul (dOp rIx (dVar 0) (dC (.int 0))) (dOp rIx (dVar 1) (dC (.int 0)))) (dCons (dOp rMul (dOp rIx (dVar 0) (dC (.int 1))) (dOp rIx (dVar 1) (dC (.int 1)))) dNil))))
@[irreducible] def sp__law_mul_2 : FSpec := spOf false 2 2 w__law_mul_2

def w__law_div : DS := (dRet (dCall PG.sp__law_frac [] (dCons (dOp rMul (dOp rIx (dVar 0) (dC (.int 0))) (dOp rIx (dVar 1) (dC (.int 1)))) (dCons (dOp rMul (dOp rIx (dVar 0) (dC (.int 1))) (dOp rIx (dVar 1) (dC (.int 0)))) dNil))))
@[irreducible] def sp__law_div : FSpec := spOf false 2 2 w__law_div

def w__law_fraction : DS := (dRet (dCall PG.sp__law_frac [] (dCons (dOp rSub (dCall PG.sp__law_draw_2 [] (dCons (dVar 0) (dCons (dC (.int 9)) dNil))) (dC (.int 4))) (dCons (dOp rIx (dLst (dCons (dC (.int 1)) (dCons (dC (.int 1)) (dCons (dC (.int 2)) (dCons (dC (.int 3)) dNil))))) (dCall PG.sp__law_draw_2 [] (dCons (dVar 0) (dCons (dC (.int 4)) dNil)))) dNil))))
@[irreducible] def sp__law_fraction : FSpec := spOf false 1 1 w__law_fraction

def w_cross : DS := (dRet (dOp rSub (dOp rMul (dOp rIx (dVar 0) (dC (.int 0))) (dOp rIx (dVar 1) (dC (.int 1)))) (dOp rMul (dOp rIx (dVar 0) (dC (.int 1))) (dOp rIx (dVar 1) (dC (.int 0))))))
@[irreducible] def sp_cross : FSpec := spOf false 2 2 w_cross

def w_opposite : DS := (dRet (dTup (dCons (rU rNeg (dOp rIx (dVar 0) (dC (.int 0)))) (dCons (rU rNeg (dOp rIx (dVar 0) (dC (.int 1)))) (dCons (rU rNeg (dOp rIx (dVar 0) (dC (.int 2)))) dNil)))))
@[irreducible] def sp_opposite : FSpec := spOf false 1 1 w_opposite

def w_reach : DS := (dRet (dCall PG.sp_fraction [] (dCons (dOp rIx (dVar 0) (dC (.int 2))) (dCons (dOp rAddA (dBi bAbs (dCons (dOp rIx (dVar 0) (dC (.int 0))) dNil)) (dBi bAbs (dCons (dOp rIx (dVar 0) (dC (.int 1))) dNil))) dNil))))
@[irreducible] def sp_reach : FSpec := spOf false 1 1 w_reach

def w_in_first_half : DS := (dRet (dOrV (dOp rGt (dOp rIx (dVar 0) (dC (.int 1))) (dC (.int 0))) (dAndV (dOp rEq (dOp rIx (dVar 0) (dC (.int 1))) (dC (.int 0))) (dOp rGt (dOp rIx (dVar 0) (dC (.int 0))) (dC (.int 0))))))
@[irreducible] def sp_in_first_half : FSpec := spOf false 1 1 w_in_first_half

def w_comes_before : DS := (dSeq (dIfS (dTest (dOp rNe (dCall PG.sp_in_first_half [] (dCons (dVar 0) dNil)) (dCall PG.sp_in_first_half [] (dCons (dVar 1) dNil))))
  (dRet (dCall PG.sp_in_first_half [] (dCons (dVar 0) dNil)))
  dNext)
  (dSeq (dSet 2 (dCall PG.sp_cross [] (dCons (dVar 0) (dCons (dVar 1) dNil))))
  (dSeq (dIfS (dTest (dOp rNe (dVar 2) (dC (.int 0))))
  (dRet (dOp rGt (dVar 2) (dC (.int 0))))
  dNext)
  (dRet (dOp rLt (dCall PG.sp_compare [] (dCons (dCall PG.sp_reach [] (dCons (dVar 0) dNil)) (dCons (dCall PG.sp_reach [] (dCons (dVar 1) dNil)) dNil))) (dC (.int 0)))))))
@[irreducible] def sp_comes_before : FSpec := spOf false 2 3 w_comes_before

def w_in_order : DS := (dSeq (dSet 1 (dLstO dNil))
  (dSeq (dFor (dAny (dVar 0)) (.nm 2)
  (dIfS (dTest (dOp (rIn true) (dVar 2) (dVar 1)))
  (dSeq (dSet 3 (dBi bLen (dCons (dLc false (dAny (dVar 1)) (.nm 4) (dTru (dCall PG.sp_comes_before [] (dCons (dVar 4) (dCons (dVar 2) dNil)))) (dVar 4) [4]) dNil)))
  (dDo (dMeth mInsert (dVar 1) (dCons (dVar 3) (dCons (dVar 2) dNil)))))
  dNext))
  (dRet (dVar 1))))
@[irreducible] def sp_in_order : FSpec := spOf false 1 5 w_in_order

def w_make_half_plane : DS := (dSeq (dIfS (dAnd (dTest (dOp rEq (dVar 0) (dC PG.v_ZERO))) (dTest (dOp rEq (dVar 1) (dC PG.v_ZERO))))
  dNever
  dNext)
  (dSeq (dSet 3 (dOp rMul (dOp rMul (dOp rIx (dVar 0) (dC (.int 1))) (dOp rIx (dVar 1) (dC (.int 1)))) (dOp rIx (dVar 2) (dC (.int 1)))))
  (dSeq (dSet 4 (dLc false (dAny (dTup (dCons (dVar 0) (dCons (dVar 1) (dCons (dVar 2) dNil))))) (.nm 6) dYes (dOp rMul (dOp rIx (dVar 6) (dC (.int 0))) (dOp rDiv (dVar 3) (dOp rIx (dVar 6) (dC (.int 1))))) [6]))
  (dSeq (dSet 5 (dCall PG.sp_common_divisor [] (dCons (dCall PG.sp_common_divisor [] (dCons (dOp rIx (dVar 4) (dC (.int 0))) (dCons (dOp rIx (dVar 4) (dC (.int 1))) dNil))) (dCons (dOp rIx (dVar 4) (dC (.int 2))) dNil))))
  (dRet (dTup (dCons (dOp rDiv (dOp rIx (dVar 4) (dC (.int 0))) (dVar 5)) (dCons (dOp rDiv (dOp rIx (dVar 4) (dC (.int 1))) (dVar 5)) (dCons (dOp rDiv (dOp rIx (dVar 4) (dC (.int 2))) (dVar 5)) dNil)))))))))
@[irreducible] def sp_make_half_plane : FSpec := spOf false 3 7 w_make_half_plane

def w_edges_of : DS := (dSeq (dAsg (dVar 2) (.tp [3, 4, 5, 6, 7, 8]))
  (dSeq (dSet 9 (dLstO dNil))
  (dSeq (dIfS (dTest (dNotN (dOp rIx (dVar 1) (dC (.int 1)))))
  (dDo (dMeth mAppend (dVar 9) (dCons (dTup (dCons (dTup (dCons (dVar 0) (dCons (dC (.str ("lower" : Str))) dNil))) (dCons (dCall PG.sp_make_half_plane [] (dCons (dCall PG.sp_negative [] (dCons (dVar 3) dNil)) (dCons (dCall PG.sp_negative [] (dCons (dVar 4) dNil)) (dCons (dCall PG.sp_subtract [] (dCons (dVar 7) (dCons (dOp rIx (dVar 1) (dC (.int 1))) dNil))) dNil)))) dNil))) dNil)))
  dNext)
  (dSeq (dIfS (dTest (dNotN (dOp rIx (dVar 1) (dC (.int 2)))))
  (dDo (dMeth mAppend (dVar 9) (dCons (dTup (dCons (dTup (dCons (dVar 0) (dCons (dC (.str ("upper" : Str))) dNil))) (dCons (dCall PG.sp_make_half_plane [] (dCons (dVar 3) (dCons (dVar 4) (dCons (dCall PG.sp_subtract [] (dCons (dOp rIx (dVar 1) (dC (.int 2))) (dCons (dVar 7) dNil))) dNil)))) dNil))) dNil)))
  dNext)
  (dRet (dVar 9))))))
@[irreducible] def sp_edges_of : FSpec := spOf false 3 10 w_edges_of

def w_half_planes_of : DS := (dSeq (dSet 1 (dLst dNil))
  (dSeq (dSet 2 (dC PG.v_IDENTITY))
  (dSeq (dFor (dEnum (dCons (dVar 0) dNil)) (.tp [3, 4])
  (dSeq (dIfS (dTest (dOp rEq (dOp rIx (dVar 4) (dC (.int 0))) (dC (.str ("stop" : Str)))))
  (dSet 1 (dOp rAddA (dVar 1) (dCall PG.sp_edges_of [] (dCons (dVar 3) (dCons (dVar 4) (dCons (dVar 2) dNil))))))
  dNext)
  (dSet 2 (dCall PG.sp_compose_maps [] (dCons (dVar 2) (dCons (dCall PG.sp_element_map [] (dCons (dVar 4) dNil)) dNil))))))
  (dRet (dVar 1)))))
@[irreducible] def sp_half_planes_of : FSpec := spOf false 1 5 w_half_planes_of

def w_determinant : DS := (dRet (dOp rSub (dOp rMul (dOp rIx (dVar 0) (dC (.int 0))) (dOp rIx (dVar 1) (dC (.int 1)))) (dOp rMul (dOp rIx (dVar 0) (dC (.int 1))) (dOp rIx (dVar 1) (dC (.int 0))))))
@[irreducible] def sp_determinant : FSpec := spOf false 2 2 w_determinant

def w_product : DS := (dRet (dOp rAddA (dOp rMul (dOp rIx (dVar 0) (dC (.int 0))) (dOp rIx (dVar 1) (dC (.int 0)))) (dOp rMul (dOp rIx (dVar 0) (dC (.int 1))) (dOp rIx (dVar 1) (dC (.int 1))))))
@[irreducible] def sp_product : FSpec := spOf false 2 2 w_product

def w_opposite_weights : DS := (dSeq (dIfS (dOr (dTest (dOp rNe (dCall PG.sp_determinant [] (dCons (dVar 0) (dCons (dVar 1) dNil))) (dC (.int 0)))) (dTest (dOp rGe (dCall PG.sp_product [] (dCons (dVar 0) (dCons (dVar 1) dNil))) (dC (.int 0)))))
  (dRet (dC .non))
  dNext)
  (dSeq (dSet 2 (dOp rAddA (dBi bAbs (dCons (dOp rIx (dVar 1) (dC (.int 0))) dNil)) (dBi bAbs (dCons (dOp rIx (dVar 1) (dC (.int 1))) dNil))))
  (dSeq (dSet 3 (dOp rAddA (dBi bAbs (dCons (dOp rIx (dVar 0) (dC (.int 0))) dNil)) (dBi bAbs (dCons (dOp rIx (dVar 0) (dC (.int 1))) dNil))))
  (dSeq (dSet 4 (dCall PG.sp_common_divisor [] (dCons (dVar 2) (dCons (dVar 3) dNil))))
  (dRet (dTup (dCons (dOp rDiv (dVar 2) (dVar 4)) (dCons (dOp rDiv (dVar 3) (dVar 4)) dNil))))))))
@[irreducible] def sp_opposite_weights : FSpec := spOf false 2 5 w_opposite_weights

def w_triple_weights : DS := (dSeq (dSet 3 (dLst (dCons (dCall PG.sp_determinant [] (dCons (dVar 1) (dCons (dVar 2) dNil))) (dCons (dCall PG.sp_determinant [] (dCons (dVar 2) (dCons (dVar 0) dNil))) (dCons (dCall PG.sp_determinant [] (dCons (dVar 0) (dCons (dVar 1) dNil))) dNil)))))
  (dSeq (dIfS (dTest (dOp rLt (dOp rIx (dVar 3) (dC (.int 0))) (dC (.int 0))))
  (dSet 3 (dLc false (dAny (dVar 3)) (.nm 5) dYes (rU rNeg (dVar 5)) [5]))
  dNext)
  (dSeq (dIfS (dTru (dGx false (dAny (dVar 3)) (.nm 5) (dOp rLe (dVar 5) (dC (.int 0))) [5]))
  (dRet (dC .non))
  dNext)
  (dSeq (dSet 4 (dCall PG.sp_common_divisor [] (dCons (dCall PG.sp_common_divisor [] (dCons (dOp rIx (dVar 3) (dC (.int 0))) (dCons (dOp rIx (dVar 3) (dC (.int 1))) dNil))) (dCons (dOp rIx (dVar 3) (dC (.int 2))) dNil))))
  (dRet (dBi bTuple (dCons (dLc false (dAny (dVar 3)) (.nm 5) dYes (dOp rDiv (dVar 5) (dVar 4)) [5]) dNil)))))))
@[irreducible] def sp_triple_weights : FSpec := spOf false 3 6 w_triple_weights

def w_opposing_sets : DS := (dSeq (dSet 1 (dBi bLen (dCons (dVar 0) dNil)))
  (dSeq (dSet 2 (dLstO dNil))
  (dSeq (dFor (dRange1 (dCons (dVar 1) dNil)) (.nm 3)
  (dFor (dRange2 (dCons (dOp rAddA (dVar 3) (dC (.int 1))) (dCons (dVar 1) dNil))) (.nm 4)
  (dDo (dMeth mAppend (dVar 2) (dCons (dTup (dCons (dTup (dCons (dVar 3) (dCons (dVar 4) dNil))) (dCons (dCall PG.sp_opposite_weights [] (dCons (dOp rIx (dVar 0) (dVar 3)) (dCons (dOp rIx (dVar 0) (dVar 4)) dNil))) dNil))) dNil)))))
  (dSeq (dFor (dRange1 (dCons (dVar 1) dNil)) (.nm 3)
  (dFor (dRange2 (dCons (dOp rAddA (dVar 3) (dC (.int 1))) (dCons (dVar 1) dNil))) (.nm 4)
  (dFor (dRange2 (dCons (dOp rAddA (dVar 4) (dC (.int 1))) (dCons (dVar 1) dNil))) (.nm 5)
  (dDo (dMeth mAppend (dVar 2) (dCons (dTup (dCons (dTup (dCons (dVar 3) (dCons (dVar 4) (dCons (dVar 5) dNil)))) (dCons (dCall PG.sp_triple_weights [] (dCons (dOp rIx (dVar 0) (dVar 3)) (dCons (dOp rIx (dVar 0) (dVar 4)) (dCons (dOp rIx (dVar 0) (dVar 5)) dNil)))) dNil))) dNil))))))
  (dRet (dLc false (dAny (dVar 2)) (.nm 6) (dTest (dNotN (dOp rIx (dVar 6) (dC (.int 1))))) (dVar 6) [6]))))))
@[irreducible] def sp_opposing_sets : FSpec := spOf false 1 7 w_opposing_sets

def w_number_of : DS := (dRet (dBi bSum (dCons (dLc false (dZipT (dCons (dVar 1) (dCons (dVar 2) dNil))) (.tp [3, 4]) dYes (dOp rMul (dOp rIx (dOp rIx (dVar 0) (dVar 3)) (dC (.int 2))) (dVar 4)) [3, 4]) dNil)))
@[irreducible] def sp_number_of : FSpec := spOf false 3 5 w_number_of

def w_is_empty : DS := (dRet (dGx false (dAny (dCall PG.sp_opposing_sets [] (dCons (dVar 0) dNil))) (.tp [1, 2]) (dOp rLt (dCall PG.sp_number_of [] (dCons (dVar 0) (dCons (dVar 1) (dCons (dVar 2) dNil)))) (dC (.int 0))) [1, 2]))
@[irreducible] def sp_is_empty : FSpec := spOf false 1 3 w_is_empty

def w_single_bound : DS := (dSeq (dSet 3 (dCall PG.sp_subtract [] (dCons (dCall PG.sp_multiply [] (dCons (dCall PG.sp_fraction [.d (.int 1)] (dCons (dOp rIx (dVar 0) (dC (.int 0))) dNil)) (dCons (dVar 2) dNil))) (dCons (dCall PG.sp_multiply [] (dCons (dCall PG.sp_fraction [.d (.int 1)] (dCons (dOp rIx (dVar 0) (dC (.int 1))) dNil)) (dCons (dVar 1) dNil))) dNil))))
  (dSeq (dSet 4 (dCall PG.sp_add [] (dCons (dCall PG.sp_multiply [] (dCons (dCall PG.sp_fraction [.d (.int 1)] (dCons (dOp rIx (dVar 0) (dC (.int 0))) dNil)) (dCons (dVar 1) dNil))) (dCons (dCall PG.sp_multiply [] (dCons (dCall PG.sp_fraction [.d (.int 1)] (dCons (dOp rIx (dVar 0) (dC (.int 1))) dNil)) (dCons (dVar 2) dNil))) dNil))))
  (dSeq (dIfS (dOr (dTest (dOp rNe (dVar 3) (dC PG.v_ZERO))) (dTest (dOp rLe (dCall PG.sp_sign [] (dCons (dVar 4) dNil)) (dC (.int 0)))))
  (dRet (dC .non))
  dNext)
  (dSeq (dSet 5 (dCall PG.sp_divide [] (dCons (dVar 4) (dCons (dCall PG.sp_fraction [.d (.int 1)] (dCons (dCall PG.sp_product [] (dCons (dVar 0) (dCons (dVar 0) dNil))) dNil)) dNil))))
  (dRet (dCall PG.sp_multiply [] (dCons (dVar 5) (dCons (dCall PG.sp_fraction [.d (.int 1)] (dCons (dOp rIx (dVar 0) (dC (.int 2))) dNil)) dNil))))))))
@[irreducible] def sp_single_bound : FSpec := spOf false 3 6 w_single_bound

def w_pair_weights : DS := (dSeq (dSet 4 (dCall PG.sp_determinant [] (dCons (dVar 0) (dCons (dVar 1) dNil))))
  (dSeq (dIfS (dTest (dOp rEq (dVar 4) (dC (.int 0))))
  (dRet (dC .non))
  dNext)
  (dSeq (dSet 5 (dCall PG.sp_divide [] (dCons (dCall PG.sp_subtract [] (dCons (dCall PG.sp_multiply [] (dCons (dVar 2) (dCons (dCall PG.sp_fraction [.d (.int 1)] (dCons (dOp rIx (dVar 1) (dC (.int 1))) dNil)) dNil))) (dCons (dCall PG.sp_multiply [] (dCons (dVar 3) (dCons (dCall PG.sp_fraction [.d (.int 1)] (dCons (dOp rIx (dVar 1) (dC (.int 0))) dNil)) dNil))) dNil))) (dCons (dCall PG.sp_fraction [.d (.int 1)] (dCons (dVar 4) dNil)) dNil))))
  (dSeq (dSet 6 (dCall PG.sp_divide [] (dCons (dCall PG.sp_subtract [] (dCons (dCall PG.sp_multiply [] (dCons (dVar 3) (dCons (dCall PG.sp_fraction [.d (.int 1)] (dCons (dOp rIx (dVar 0) (dC (.int 0))) dNil)) dNil))) (dCons (dCall PG.sp_multiply [] (dCons (dVar 2) (dCons (dCall PG.sp_fraction [.d (.int 1)] (dCons (dOp rIx (dVar 0) (dC (.int 1))) dNil)) dNil))) dNil))) (dCons (dCall PG.sp_fraction [.d (.int 1)] (dCons (dVar 4) dNil)) dNil))))
  (dSeq (dIfS (dOr (dTest (dOp rLe (dCall PG.sp_sign [] (dCons (dVar 5) dNil)) (dC (.int 0)))) (dTest (dOp rLe (dCall PG.sp_sign [] (dCons (dVar 6) dNil)) (dC (.int 0)))))
  (dRet (dC .non))
  dNext)
  (dRet (dTup (dCons (dVar 5) (dCons (dVar 6) dNil)))))))))
@[irreducible] def sp_pair_weights : FSpec := spOf false 4 7 w_pair_weights

def w_pair_bound : DS := (dSeq (dSet 4 (dCall PG.sp_pair_weights [] (dCons (dVar 0) (dCons (dVar 1) (dCons (dVar 2) (dCons (dVar 3) dNil))))))
  (dSeq (dIfS (dTest (dIsN (dVar 4)))
  (dRet (dC .non))
  dNext)
  (dRet (dCall PG.sp_add [] (dCons (dCall PG.sp_multiply [] (dCons (dOp rIx (dVar 4) (dC (.int 0))) (dCons (dCall PG.sp_fraction [.d (.int 1)] (dCons (dOp rIx (dVar 0) (dC (.int 2))) dNil)) dNil))) (dCons (dCall PG.sp_multiply [] (dCons (dOp rIx (dVar 4) (dC (.int 1))) (dCons (dCall PG.sp_fraction [.d (.int 1)] (dCons (dOp rIx (dVar 1) (dC (.int 2))) dNil)) dNil))) dNil))))))
@[irreducible] def sp_pair_bound : FSpec := spOf false 4 5 w_pair_bound

def w_supremum : DS := (dSeq (dIfS (dAnd (dTest (dOp rEq (dVar 1) (dC PG.v_ZERO))) (dTest (dOp rEq (dVar 2) (dC PG.v_ZERO))))
  (dRet (dC PG.v_ZERO))
  dNext)
  (dSeq (dSet 4 (dLc true (dAny (dVar 0)) (.nm 3) dYes (dCall PG.sp_single_bound [] (dCons (dVar 3) (dCons (dVar 1) (dCons (dVar 2) dNil)))) [3]))
  (dSeq (dFor (dEnum (dCons (dVar 0) dNil)) (.tp [5, 3])
  (dFor (dAny (dSl false (dVar 0) (dPart (dOp rAddA (dVar 5) (dC (.int 1)))) dNoP)) (.nm 6)
  (dDo (dMeth mAppend (dVar 4) (dCons (dCall PG.sp_pair_bound [] (dCons (dVar 3) (dCons (dVar 6) (dCons (dVar 1) (dCons (dVar 2) dNil))))) dNil)))))
  (dRet (dCall PG.sp_least_of [] (dCons (dFz 4) dNil))))))
@[irreducible] def sp_supremum : FSpec := spOf false 3 7 w_supremum

def w_infimum : DS := (dSeq (dSet 3 (dCall PG.sp_supremum [] (dCons (dVar 0) (dCons (dCall PG.sp_negative [] (dCons (dVar 1) dNil)) (dCons (dCall PG.sp_negative [] (dCons (dVar 2) dNil)) dNil)))))
  (dSeq (dIfS (dTest (dIsN (dVar 3)))
  (dRet (dC .non))
  dNext)
  (dRet (dCall PG.sp_negative [] (dCons (dVar 3) dNil)))))
@[irreducible] def sp_infimum : FSpec := spOf false 3 4 w_infimum

def w_direction_range : DS := (dSeq (dIfS (dTru (dCall PG.sp_is_empty [] (dCons (dVar 0) dNil)))
  (dRet (dC .non))
  dNext)
  (dRet (dTup (dCons (dCall PG.sp_infimum [] (dCons (dVar 0) (dCons (dVar 1) (dCons (dVar 2) dNil)))) (dCons (dCall PG.sp_supremum [] (dCons (dVar 0) (dCons (dVar 1) (dCons (dVar 2) dNil)))) dNil)))))
@[irreducible] def sp_direction_range : FSpec := spOf false 3 3 w_direction_range

def w_line_of : DS := (dSeq (dFor (dAny (dVar 0)) (.nm 1)
  (dIfS (dTest (dOp rEq (dCall PG.sp_infimum [] (dCons (dVar 0) (dCons (dCall PG.sp_fraction [.d (.int 1)] (dCons (dOp rIx (dVar 1) (dC (.int 0))) dNil)) (dCons (dCall PG.sp_fraction [.d (.int 1)] (dCons (dOp rIx (dVar 1) (dC (.int 1))) dNil)) dNil)))) (dCall PG.sp_fraction [.d (.int 1)] (dCons (dOp rIx (dVar 1) (dC (.int 2))) dNil))))
  (dRet (dVar 1))
  dNext))
  (dRet (dC .non)))
@[irreducible] def sp_line_of : FSpec := spOf false 1 2 w_line_of

def w_region_kind : DS := (dSeq (dIfS (dTru (dCall PG.sp_is_empty [] (dCons (dVar 0) dNil)))
  (dRet (dC (.str ("empty" : Str))))
  dNext)
  (dSeq (dSet 1 (dCall PG.sp_line_of [] (dCons (dVar 0) dNil)))
  (dSeq (dIfS (dTest (dIsN (dVar 1)))
  (dRet (dC (.str ("area" : Str))))
  dNext)
  (dSeq (dAsg (dCall PG.sp_direction_range [] (dCons (dVar 0) (dCons (dCall PG.sp_fraction [.d (.int 1)] (dCons (rU rNeg (dOp rIx (dVar 1) (dC (.int 1)))) dNil)) (dCons (dCall PG.sp_fraction [.d (.int 1)] (dCons (dOp rIx (dVar 1) (dC (.int 0))) dNil)) dNil)))) (.tp [2, 3]))
  (dSeq (dIfS (dAnd (dTest (dIsN (dVar 2))) (dTest (dIsN (dVar 3))))
  (dRet (dC (.str ("line" : Str))))
  dNext)
  (dSeq (dIfS (dOr (dTest (dIsN (dVar 2))) (dTest (dIsN (dVar 3))))
  (dRet (dC (.str ("halfLine" : Str))))
  dNext)
  (dSeq (dIfS (dTest (dOp rEq (dVar 2) (dVar 3)))
  (dRet (dC (.str ("point" : Str))))
  dNext)
  (dRet (dC (.str ("segment" : Str)))))))))))
@[irreducible] def sp_region_kind : FSpec := spOf false 1 4 w_region_kind

def w_sample_ray : DS := (dSeq (dSet 1 (dCall PG.sp_direction_range [] (dCons (dVar 0) (dCons (dC PG.v_ONE) (dCons (dC PG.v_ZERO) dNil)))))
  (dSeq (dIfS (dTest (dIsN (dVar 1)))
  (dRet (dC .non))
  dNext)
  (dSeq (dSet 2 (dCall PG.sp_nearest_to_zero [] (dCons (dOp rIx (dVar 1) (dC (.int 0))) (dCons (dOp rIx (dVar 1) (dC (.int 1))) dNil))))
  (dSeq (dSet 3 (dLst (dCons (dCall PG.sp_make_half_plane [] (dCons (dC PG.v_ONE) (dCons (dC PG.v_ZERO) (dCons (dVar 2) dNil)))) (dCons (dCall PG.sp_make_half_plane [] (dCons (dCall PG.sp_negative [] (dCons (dC PG.v_ONE) dNil)) (dCons (dC PG.v_ZERO) (dCons (dCall PG.sp_negative [] (dCons (dVar 2) dNil)) dNil)))) dNil))))
  (dSeq (dSet 4 (dCall PG.sp_direction_range [] (dCons (dOp rAddA (dBi bList (dCons (dVar 0) dNil)) (dVar 3)) (dCons (dC PG.v_ZERO) (dCons (dC PG.v_ONE) dNil)))))
  (dRet (dTup (dCons (dVar 2) (dCons (dCall PG.sp_nearest_to_zero [] (dCons (dOp rIx (dVar 4) (dC (.int 0))) (dCons (dOp rIx (dVar 4) (dC (.int 1))) dNil))) dNil)))))))))
@[irreducible] def sp_sample_ray : FSpec := spOf false 1 5 w_sample_ray

def w_is_implied : DS := (dSeq (dIfS (dTru (dCall PG.sp_is_empty [] (dCons (dVar 0) dNil)))
  (dRet (dC (.bl true)))
  dNext)
  (dSeq (dSet 2 (dCall PG.sp_supremum [] (dCons (dVar 0) (dCons (dCall PG.sp_fraction [.d (.int 1)] (dCons (dOp rIx (dVar 1) (dC (.int 0))) dNil)) (dCons (dCall PG.sp_fraction [.d (.int 1)] (dCons (dOp rIx (dVar 1) (dC (.int 1))) dNil)) dNil)))))
  (dRet (dAndV (dNotN (dVar 2)) (dOp rLe (dCall PG.sp_compare [] (dCons (dVar 2) (dCons (dCall PG.sp_fraction [.d (.int 1)] (dCons (dOp rIx (dVar 1) (dC (.int 2))) dNil)) dNil))) (dC (.int 0)))))))
@[irreducible] def sp_is_implied : FSpec := spOf false 2 3 w_is_implied

def w_planes_of : DS := (dRet (dLc false (dAny (dCall PG.sp_half_planes_of [] (dCons (dVar 0) dNil))) (.tp [1, 2]) dYes (dVar 2) [1, 2]))
@[irreducible] def sp_planes_of : FSpec := spOf false 1 3 w_planes_of

def w_needed : DS := (dSeq (dSet 1 (dCall PG.sp_in_order [] (dCons (dVar 0) dNil)))
  (dSeq (dSet 2 (dLstO dNil))
  (dSeq (dFor (dAny (dVar 1)) (.nm 3)
  (dSeq (dSet 4 (dLc false (dAny (dVar 1)) (.nm 5) (dTest (dOp rNe (dVar 5) (dVar 3))) (dVar 5) [5]))
  (dIfS (dNot (dTru (dCall PG.sp_is_implied [] (dCons (dVar 4) (dCons (dVar 3) dNil)))))
  (dDo (dMeth mAppend (dVar 2) (dCons (dVar 3) dNil)))
  dNext)))
  (dRet (dVar 2)))))
@[irreducible] def sp_needed : FSpec := spOf false 1 6 w_needed

def w_carrier : DS := (dSeq (dSet 1 (dCall PG.sp_line_of [] (dCons (dVar 0) dNil)))
  (dRet (dOp rIx (dCall PG.sp_in_order [] (dCons (dLst (dCons (dVar 1) (dCons (dCall PG.sp_opposite [] (dCons (dVar 1) dNil)) dNil))) dNil)) (dC (.int 0)))))
@[irreducible] def sp_carrier : FSpec := spOf false 1 2 w_carrier

def w_line_planes : DS := (dSeq (dSet 1 (dCall PG.sp_carrier [] (dCons (dVar 0) dNil)))
  (dSeq (dSet 2 (dCall PG.sp_common_divisor [] (dCons (dOp rIx (dVar 1) (dC (.int 0))) (dCons (dOp rIx (dVar 1) (dC (.int 1))) dNil))))
  (dSeq (dSet 3 (dLstO (dCons (dVar 1) (dCons (dCall PG.sp_opposite [] (dCons (dVar 1) dNil)) dNil))))
  (dSeq (dFor (dAny (dLst (dCons (dC (.int 1)) (dCons (rU rNeg (dC (.int 1))) dNil)))) (.nm 4)
  (dSeq (dSet 5 (dTup (dCons (dCall PG.sp_fraction [.d (.int 1)] (dCons (dOp rMul (dOp rDiv (rU rNeg (dOp rIx (dVar 1) (dC (.int 1)))) (dVar 2)) (dVar 4)) dNil)) (dCons (dCall PG.sp_fraction [.d (.int 1)] (dCons (dOp rMul (dOp rDiv (dOp rIx (dVar 1) (dC (.int 0))) (dVar 2)) (dVar 4)) dNil)) dNil))))
  (dSeq (dSet 6 (dCall PG.sp_supremum [] (dCons (dVar 0) (dCons (dOp rIx (dVar 5) (dC (.int 0))) (dCons (dOp rIx (dVar 5) (dC (.int 1))) dNil)))))
  (dIfS (dTest (dNotN (dVar 6)))
  (dDo (dMeth mAppend (dVar 3) (dCons (dCall PG.sp_make_half_plane [] (dCons (dOp rIx (dVar 5) (dC (.int 0))) (dCons (dOp rIx (dVar 5) (dC (.int 1))) (dCons (dVar 6) dNil)))) dNil)))
  dNext))))
  (dRet (dCall PG.sp_in_order [] (dCons (dFz 3) dNil)))))))
@[irreducible] def sp_line_planes : FSpec := spOf false 1 7 w_line_planes

def w_point_planes : DS := (dSeq (dAsg (dVar 0) (.tp [1, 2]))
  (dSeq (dSet 3 (dCall PG.sp_make_half_plane [] (dCons (dCall PG.sp_negative [] (dCons (dC PG.v_ONE) dNil)) (dCons (dCall PG.sp_negative [] (dCons (dC PG.v_ONE) dNil)) (dCons (dCall PG.sp_negative [] (dCons (dCall PG.sp_add [] (dCons (dVar 1) (dCons (dVar 2) dNil))) dNil)) dNil)))))
  (dRet (dCall PG.sp_in_order [] (dCons (dLst (dCons (dCall PG.sp_make_half_plane [] (dCons (dC PG.v_ONE) (dCons (dC PG.v_ZERO) (dCons (dVar 1) dNil)))) (dCons (dCall PG.sp_make_half_plane [] (dCons (dC PG.v_ZERO) (dCons (dC PG.v_ONE) (dCons (dVar 2) dNil)))) (dCons (dVar 3) dNil)))) dNil)))))
@[irreducible] def sp_point_planes : FSpec := spOf false 1 4 w_point_planes

def w_canonical_half_planes : DS := (dSeq (dSet 1 (dCall PG.sp_region_kind [] (dCons (dVar 0) dNil)))
  (dSeq (dIfS (dTest (dOp rEq (dVar 1) (dC (.str ("empty" : Str)))))
  (dRet (dCall PG.sp_in_order [] (dCons (dLst (dCons (dTup (dCons (dC (.int 1)) (dCons (dC (.int 0)) (dCons (rU rNeg (dC (.int 1))) dNil)))) (dCons (dTup (dCons (rU rNeg (dC (.int 1))) (dCons (dC (.int 0)) (dCons (dC (.int 0)) dNil)))) dNil))) dNil)))
  dNext)
  (dSeq (dIfS (dTest (dOp rEq (dVar 1) (dC (.str ("area" : Str)))))
  (dRet (dCall PG.sp_needed [] (dCons (dVar 0) dNil)))
  dNext)
  (dSeq (dIfS (dTest (dOp rEq (dVar 1) (dC (.str ("point" : Str)))))
  (dRet (dCall PG.sp_point_planes [] (dCons (dCall PG.sp_sample_ray [] (dCons (dVar 0) dNil)) dNil)))
  dNext)
  (dRet (dCall PG.sp_line_planes [] (dCons (dVar 0) dNil)))))))
@[irreducible] def sp_canonical_half_planes : FSpec := spOf false 1 2 w_canonical_half_planes

def w_base_rays : DS := (dSeq (dSet 1 (dCall PG.sp_region_kind [] (dCons (dVar 0) dNil)))
  (dSeq (dIfS (dTest (dOp rEq (dVar 1) (dC (.str ("empty" : Str)))))
  (dRet (dLst dNil))
  dNext)
  (dSeq (dIfS (dTest (dOp rEq (dVar 1) (dC (.str ("area" : Str)))))
  (dRet (dLst (dCons (dTup (dCons (dC PG.v_ZERO) (dCons (dC PG.v_ZERO) dNil))) (dCons (dTup (dCons (dC PG.v_ONE) (dCons (dC PG.v_ZERO) dNil))) (dCons (dTup (dCons (dC PG.v_ZERO) (dCons (dC PG.v_ONE) dNil))) dNil)))))
  dNext)
  (dSeq (dIfS (dTest (dOp rEq (dVar 1) (dC (.str ("point" : Str)))))
  (dRet (dLst (dCons (dCall PG.sp_sample_ray [] (dCons (dVar 0) dNil)) dNil)))
  dNext)
  (dSeq (dAsg (dCall PG.sp_carrier [] (dCons (dVar 0) dNil)) (.tp [2, 3, 4]))
  (dSeq (dSet 5 (dOp rAddA (dOp rMul (dVar 2) (dVar 2)) (dOp rMul (dVar 3) (dVar 3))))
  (dSeq (dSet 6 (dTup (dCons (dCall PG.sp_fraction [] (dCons (dOp rMul (dVar 2) (dVar 4)) (dCons (dVar 5) dNil))) (dCons (dCall PG.sp_fraction [] (dCons (dOp rMul (dVar 3) (dVar 4)) (dCons (dVar 5) dNil))) dNil))))
  (dRet (dLst (dCons (dVar 6) (dCons (dTup (dCons (dCall PG.sp_add [] (dCons (dOp rIx (dVar 6) (dC (.int 0))) (dCons (dCall PG.sp_fraction [.d (.int 1)] (dCons (rU rNeg (dVar 3)) dNil)) dNil))) (dCons (dCall PG.sp_add [] (dCons (dOp rIx (dVar 6) (dC (.int 1))) (dCons (dCall PG.sp_fraction [.d (.int 1)] (dCons (dVar 2) dNil)) dNil))) dNil))) dNil)))))))))))
@[irreducible] def sp_base_rays : FSpec := spOf false 1 7 w_base_rays

def w_canonical_form : DS := (dSeq (dSet 1 (dCall PG.sp_planes_of [] (dCons (dVar 0) dNil)))
  (dSeq (dSet 2 (dCall PG.sp_ray_transfer [] (dCons (dVar 0) dNil)))
  (dSeq (dSet 3 (dLc false (dAny (dCall PG.sp_base_rays [] (dCons (dVar 1) dNil))) (.nm 4) dYes (dTup (dCons (dVar 4) (dCons (dCall PG.sp_apply_map [] (dCons (dVar 2) (dCons (dVar 4) dNil))) dNil))) [4]))
  (dRet (dTup (dCons (dCall PG.sp_region_kind [] (dCons (dVar 1) dNil)) (dCons (dCall PG.sp_canonical_half_planes [] (dCons (dVar 1) dNil)) (dCons (dVar 3) dNil))))))))
@[irreducible] def sp_canonical_form : FSpec := spOf false 1 5 w_canonical_form

def v_TWO : Dt := .tup [.int 2, .int 1]

def k_CYCLES : List (List Int × Int) := [([-1, 1], 3), ([0, 1], 4), ([1, 1], 6)]

def w_polynomial_holds : DS := (dSeq (dSet 3 (dCall PG.sp_subtract [] (dCons (dVar 1) (dCons (dVar 0) dNil))))
  (dSeq (dSet 4 (dCall PG.sp_subtract [] (dCons (dCall PG.sp_subtract [] (dCons (dVar 2) (dCons (dVar 1) dNil))) (dCons (dVar 3) dNil))))
  (dSeq (dIfS (dOr (dTest (dOp rGt (dCall PG.sp_sign [] (dCons (dVar 4) dNil)) (dC (.int 0)))) (dTest (dOp rGt (dCall PG.sp_sign [] (dCons (dVar 0) dNil)) (dC (.int 0)))))
  (dRet (dC (.bl false)))
  dNext)
  (dSeq (dIfS (dTest (dOp rEq (dCall PG.sp_sign [] (dCons (dVar 4) dNil)) (dC (.int 0))))
  (dRet (dOp rLe (dCall PG.sp_sign [] (dCons (dVar 3) dNil)) (dC (.int 0))))
  dNext)
  (dSeq (dIfS (dTest (dOp rLe (dCall PG.sp_sign [] (dCons (dVar 3) dNil)) (dC (.int 0))))
  (dRet (dC (.bl true)))
  dNext)
  (dSeq (dSet 5 (dCall PG.sp_divide [] (dCons (dVar 3) (dCons (dCall PG.sp_negative [] (dCons (dVar 4) dNil)) dNil))))
  (dSeq (dSet 6 (rU rNeg (dOp rDiv (rU rNeg (dOp rIx (dVar 5) (dC (.int 0)))) (dOp rIx (dVar 5) (dC (.int 1))))))
  (dSeq (dSet 7 (dCall PG.sp_multiply [] (dCons (dCall PG.sp_fraction [.d (.int 1)] (dCons (dVar 6) dNil)) (dCons (dVar 3) dNil))))
  (dSeq (dSet 8 (dCall PG.sp_multiply [] (dCons (dCall PG.sp_fraction [.d (.int 1)] (dCons (dOp rDiv (dOp rMul (dVar 6) (dOp rSub (dVar 6) (dC (.int 1)))) (dC (.int 2))) dNil)) (dCons (dVar 4) dNil))))
  (dRet (dOp rLe (dCall PG.sp_sign [] (dCons (dCall PG.sp_add [] (dCons (dCall PG.sp_add [] (dCons (dVar 0) (dCons (dVar 7) dNil))) (dCons (dVar 8) dNil))) dNil)) (dC (.int 0)))))))))))))
@[irreducible] def sp_polynomial_holds : FSpec := spOf false 3 9 w_polynomial_holds

def w_form_of : DS := (dSeq (dSet 3 (dCall PG.sp_multiply [] (dCons (dCall PG.sp_multiply [] (dCons (dVar 2) (dCons (dVar 0) dNil))) (dCons (dVar 1) dNil))))
  (dRet (dCall PG.sp_add [] (dCons (dCall PG.sp_subtract [] (dCons (dCall PG.sp_multiply [] (dCons (dVar 0) (dCons (dVar 0) dNil))) (dCons (dVar 3) dNil))) (dCons (dCall PG.sp_multiply [] (dCons (dVar 1) (dCons (dVar 1) dNil))) dNil)))))
@[irreducible] def sp_form_of : FSpec := spOf false 3 4 w_form_of

def w_cycle_holds : DS := (dSeq (dFor (dRange1 (dCons (dGetK PG.k_CYCLES (dVar 2)) dNil)) (.nm 4)
  (dSeq (dIfS (dTru (dCall PG.sp_is_less [] (dCons (dVar 3) (dCons (dVar 0) dNil))))
  (dRet (dC (.bl false)))
  dNext)
  (dPar 0 1 (dCons (dVar 1) (dCons (dCall PG.sp_subtract [] (dCons (dCall PG.sp_multiply [] (dCons (dVar 2) (dCons (dVar 1) dNil))) (dCons (dVar 0) dNil))) dNil)))))
  (dRet (dC (.bl true))))
@[irreducible] def sp_cycle_holds : FSpec := spOf false 4 5 w_cycle_holds

def w_ellipse_holds : DS := (dSeq (dIfS (dTest (dOp rLt (dCall PG.sp_sign [] (dCons (dVar 3) dNil)) (dC (.int 0))))
  (dRet (dC (.bl false)))
  dNext)
  (dSeq (dSet 4 (dCall PG.sp_multiply [] (dCons (dCall PG.sp_fraction [.d (.int 1)] (dCons (dC (.int 4)) dNil)) (dCons (dCall PG.sp_form_of [] (dCons (dVar 0) (dCons (dVar 1) (dCons (dVar 2) dNil)))) dNil))))
  (dRet (dCall PG.sp_is_at_most [] (dCons (dVar 4) (dCons (dCall PG.sp_multiply [] (dCons (dCall PG.sp_multiply [] (dCons (dVar 3) (dCons (dVar 3) dNil))) (dCons (dCall PG.sp_subtract [] (dCons (dCall PG.sp_fraction [.d (.int 1)] (dCons (dC (.int 4)) dNil)) (dCons (dCall PG.sp_multiply [] (dCons (dVar 2) (dCons (dVar 2) dNil))) dNil))) dNil))) dNil))))))
@[irreducible] def sp_ellipse_holds : FSpec := spOf false 4 5 w_ellipse_holds

def w_turning_holds : DS := (dSeq (dIfS (dTest (dOp rNe (dCall PG.sp_add [] (dCons (dVar 0) (dCons (dVar 1) dNil))) (dC PG.v_ZERO)))
  (dRet (dC (.bl false)))
  dNext)
  (dRet (dAndV (dCall PG.sp_is_at_most [] (dCons (dVar 0) (dCons (dVar 2) dNil))) (dCall PG.sp_is_at_most [] (dCons (dVar 1) (dCons (dVar 2) dNil))))))
@[irreducible] def sp_turning_holds : FSpec := spOf false 3 3 w_turning_holds

def w_line_holds : DS := (dSeq (dIfS (dOr (dNot (dTru (dCall PG.sp_is_at_most [] (dCons (dVar 0) (dCons (dVar 2) dNil))))) (dNot (dTru (dCall PG.sp_is_at_most [] (dCons (dVar 1) (dCons (dVar 2) dNil))))))
  (dRet (dC (.bl false)))
  dNext)
  (dSeq (dIfS (dTru (dCall PG.sp_is_less [] (dCons (dCall PG.sp_multiply [] (dCons (dVar 0) (dCons (dVar 0) dNil))) (dCons (dCall PG.sp_multiply [] (dCons (dVar 1) (dCons (dVar 1) dNil))) dNil))))
  (dRet (dAndV (dOp rLt (dCall PG.sp_sign [] (dCons (dVar 0) dNil)) (dC (.int 0))) (dOp rLt (dCall PG.sp_sign [] (dCons (dVar 1) dNil)) (dC (.int 0)))))
  dNext)
  (dRet (dOp rGe (dCall PG.sp_sign [] (dCons (dVar 2) dNil)) (dC (.int 0))))))
@[irreducible] def sp_line_holds : FSpec := spOf false 3 3 w_line_holds

def w_growing_holds : DS := (dSeq (dWhile (dTru (dCall PG.sp_is_at_most [] (dCons (dVar 0) (dCons (dVar 3) dNil))))
  (dSeq (dIfS (dAnd (dTest (dOp rGe (dCall PG.sp_sign [] (dCons (dVar 0) dNil)) (dC (.int 0)))) (dTru (dCall PG.sp_is_at_most [] (dCons (dVar 0) (dCons (dVar 1) dNil)))))
  (dRet (dC (.bl false)))
  dNext)
  (dSeq (dIfS (dAnd (dTest (dOp rLe (dCall PG.sp_sign [] (dCons (dVar 0) dNil)) (dC (.int 0)))) (dTru (dCall PG.sp_is_at_most [] (dCons (dVar 1) (dCons (dVar 0) dNil)))))
  (dRet (dC (.bl true)))
  dNext)
  (dPar 0 1 (dCons (dVar 1) (dCons (dCall PG.sp_subtract [] (dCons (dCall PG.sp_multiply [] (dCons (dVar 2) (dCons (dVar 1) dNil))) (dCons (dVar 0) dNil))) dNil))))))
  (dRet (dC (.bl false))))
@[irreducible] def sp_growing_holds : FSpec := spOf false 4 4 w_growing_holds

def w_stays_below : DS := (dSeq (dIfS (dTest (dOp rEq (dVar 3) (dC PG.v_TWO)))
  (dRet (dCall PG.sp_polynomial_holds [] (dCons (dVar 0) (dCons (dVar 1) (dCons (dVar 2) dNil)))))
  dNext)
  (dSeq (dSet 4 (dCall PG.sp_divide [] (dCons (dCall PG.sp_add [] (dCons (dCall PG.sp_subtract [] (dCons (dVar 2) (dCons (dCall PG.sp_multiply [] (dCons (dVar 3) (dCons (dVar 1) dNil))) dNil))) (dCons (dVar 0) dNil))) (dCons (dCall PG.sp_subtract [] (dCons (dC PG.v_TWO) (dCons (dVar 3) dNil))) dNil))))
  (dSeq (dSet 5 (dCall PG.sp_subtract [] (dCons (dVar 0) (dCons (dVar 4) dNil))))
  (dSeq (dSet 6 (dCall PG.sp_subtract [] (dCons (dVar 1) (dCons (dVar 4) dNil))))
  (dSeq (dSet 7 (dCall PG.sp_negative [] (dCons (dVar 4) dNil)))
  (dSeq (dIfS (dTest (dInK PG.k_CYCLES (dVar 3)))
  (dRet (dCall PG.sp_cycle_holds [] (dCons (dVar 5) (dCons (dVar 6) (dCons (dVar 3) (dCons (dVar 7) dNil))))))
  dNext)
  (dSeq (dIfS (dTest (dOp rEq (dVar 3) (dTup (dCons (rU rNeg (dC (.int 2))) (dCons (dC (.int 1)) dNil)))))
  (dRet (dCall PG.sp_turning_holds [] (dCons (dVar 5) (dCons (dVar 6) (dCons (dVar 7) dNil)))))
  dNext)
  (dSeq (dIfS (dTru (dCall PG.sp_is_less [] (dCons (dCall PG.sp_multiply [] (dCons (dVar 3) (dCons (dVar 3) dNil))) (dCons (dCall PG.sp_fraction [.d (.int 1)] (dCons (dC (.int 4)) dNil)) dNil))))
  (dRet (dCall PG.sp_ellipse_holds [] (dCons (dVar 5) (dCons (dVar 6) (dCons (dVar 3) (dCons (dVar 7) dNil))))))
  dNext)
  (dSeq (dIfS (dTest (dOp rEq (dCall PG.sp_form_of [] (dCons (dVar 5) (dCons (dVar 6) (dCons (dVar 3) dNil)))) (dC PG.v_ZERO)))
  (dRet (dCall PG.sp_line_holds [] (dCons (dVar 5) (dCons (dVar 6) (dCons (dVar 7) dNil)))))
  dNext)
  (dSeq (dIfS (dTest (dOp rLt (dCall PG.sp_sign [] (dCons (dVar 3) dNil)) (dC (.int 0))))
  (dRet (dC (.bl false)))
  dNext)
  (dRet (dCall PG.sp_growing_holds [] (dCons (dVar 5) (dCons (dVar 6) (dCons (dVar 3) (dCons (dVar 7) dNil))))))))))))))))
@[irreducible] def sp_stays_below : FSpec := spOf false 4 8 w_stays_below

def w__law_start : DS := (dSeq (dSet 1 (dCall PG.sp__law_draw_2 [] (dCons (dVar 0) (dCons (dC (.int 7)) dNil))))
  (dSeq (dSet 2 (dOp rIx (dLst (dCons (dTup (dCons (rU rNeg (dC (.int 1))) (dCons (dC (.int 1)) dNil))) (dCons (dTup (dCons (dC (.int 0)) (dCons (dC (.int 1)) dNil))) (dCons (dTup (dCons (dC (.int 1)) (dCons (dC (.int 1)) dNil))) (dCons (dTup (dCons (dC (.int 2)) (dCons (dC (.int 1)) dNil))) (dCons (dTup (dCons (rU rNeg (dC (.int 2))) (dCons (dC (.int 1)) dNil))) (dCons (dTup (dCons (dC (.int 5)) (dCons (dC (.int 2)) dNil))) (dCons (dTup (dCons (rU rNeg (dC (.int 5))) (dCons (dC (.int 2)) dNil))) (dCons (dTup (dCons (dC (.int 3)) (dCons (dC (.int 1)) dNil))) (dCons (dTup (dCons (rU rNeg (dC (.int 10))) (dCons (dC (.int 3)) dNil))) (dCons (dTup (dCons (dC (.int 1)) (dCons (dC (.int 2)) dNil))) (dCons (dTup (dCons (rU rNeg (dC (.int 3))) (dCons (dC (.int 2)) dNil))) (dCons (dTup (dCons (dC (.int 7)) (dCons (dC (.int 4)) dNil))) (dCons (dTup (dCons (dC (.int 4)) (dCons (dC (.int 1)) dNil))) dNil)))))))))))))) (dCall PG.sp__law_draw_2 [] (dCons (dVar 0) (dCons (dC (.int 13)) dNil)))))
  (dSeq (dSet 3 (dCall PG.sp__law_fraction [] (dCons (dVar 0) dNil)))
  (dSeq (dSet 4 (dCall PG.sp__law_fraction [] (dCons (dVar 0) dNil)))
  (dSeq (dSet 5 (dCall PG.sp__law_neg [] (dCons (dCall PG.sp__law_frac [] (dCons (dOp rSub (dCall PG.sp__law_draw_2 [] (dCons (dVar 0) (dCons (dC (.int 13)) dNil))) (dC (.int 2))) (dCons (dC (.int 2)) dNil))) dNil)))
  (dSeq (dIfS (dTest (dOp rEq (dVar 1) (dC (.int 0))))
  (dSet 4 (dCall PG.sp__law_mul_2 [] (dCons (dVar 3) (dCons (dOp rIx (dLst (dCons (dTup (dCons (dC (.int 1)) (dCons (dC (.int 2)) dNil))) (dCons (dTup (dCons (dC (.int 2)) (dCons (dC (.int 1)) dNil))) (dCons (dTup (dCons (rU rNeg (dC (.int 1))) (dCons (dC (.int 2)) dNil))) (dCons (dTup (dCons (rU rNeg (dC (.int 2))) (dCons (dC (.int 1)) dNil))) (dCons (dTup (dCons (rU rNeg (dC (.int 1))) (dCons (dC (.int 1)) dNil))) (dCons (dTup (dCons (dC (.int 1)) (dCons (dC (.int 3)) dNil))) (dCons (dTup (dCons (dC (.int 3)) (dCons (dC (.int 1)) dNil))) (dCons (dTup (dCons (rU rNeg (dC (.int 1))) (dCons (dC (.int 3)) dNil))) dNil))))))))) (dCall PG.sp__law_draw_2 [] (dCons (dVar 0) (dCons (dC (.int 8)) dNil)))) dNil))))
  dNext)
  (dSeq (dIfS (dTest (dOp rEq (dVar 1) (dC (.int 1))))
  (dSet 5 (dCall PG.sp__law_neg [] (dCons (dVar 3) dNil)))
  dNext)
  (dSeq (dIfS (dTest (dOp rEq (dVar 2) (dTup (dCons (dC (.int 2)) (dCons (dC (.int 1)) dNil)))))
  (dSeq (dSet 6 (dCall PG.sp__law_fraction [] (dCons (dVar 0) dNil)))
  (dRet (dLst (dCons (dVar 2) (dCons (dVar 3) (dCons (dVar 4) (dCons (dVar 6) dNil)))))))
  dNext)
  (dSeq (dSet 6 (dCall PG.sp__law_sub_2 [] (dCons (dCall PG.sp__law_mul_2 [] (dCons (dVar 2) (dCons (dVar 4) dNil))) (dCons (dVar 3) dNil))))
  (dRet (dOp rAddA (dLst (dCons (dVar 2) dNil)) (dLc false (dAny (dLst (dCons (dVar 3) (dCons (dVar 4) (dCons (dVar 6) dNil))))) (.nm 7) dYes (dCall PG.sp__law_add_2 [] (dCons (dVar 7) (dCons (dVar 5) dNil))) [7]))))))))))))
@[irreducible] def sp__law_start : FSpec := spOf false 1 8 w__law_start

def w_law_38 : DS := (dSeq (dSet 1 (dCall PG.sp__law_box [] (dCons (dVar 0) (dCons (dC (.int 0)) (dCons (dC (.int 12)) dNil)))))
  (dSeq (dAsgL (dCall PG.sp__law_start [] (dCons (dVar 1) dNil)) [2, 3, 4, 5])
  (dSeq (dSet 6 (dCall PG.sp_stays_below [] (dCons (dVar 3) (dCons (dVar 4) (dCons (dVar 5) (dCons (dVar 2) dNil))))))
  (dSeq (dSet 7 (dLst (dCons (dVar 3) (dCons (dVar 4) (dCons (dVar 5) dNil)))))
  (dSeq (dSet 8 (dCall PG.sp__law_add_2 [] (dCons (dCall PG.sp__law_sub_2 [] (dCons (dVar 5) (dCons (dCall PG.sp__law_mul_2 [] (dCons (dVar 2) (dCons (dVar 4) dNil))) dNil))) (dCons (dVar 3) dNil))))
  (dSeq (dIfS (dTest (dOp rEq (dVar 2) (dTup (dCons (dC (.int 2)) (dCons (dC (.int 1)) dNil)))))
  (dSet 8 (dCall PG.sp__law_sub_2 [] (dCons (dCall PG.sp__law_sub_2 [] (dCons (dVar 5) (dCons (dVar 4) dNil))) (dCons (dCall PG.sp__law_sub_2 [] (dCons (dVar 4) (dCons (dVar 3) dNil))) dNil))))
  dNext)
  (dSeq (dSet 9 (dOp rNe (dLc false (dAny (dVar 7)) (.nm 18) (dTest (dOp rGt (dOp rIx (dVar 18) (dC (.int 0))) (dC (.int 0)))) (dC (.int 1)) [18]) (dLst dNil)))
  (dSeq (dSet 10 (dVar 4))
  (dSeq (dSet 11 (dVar 5))
  (dSeq (dFor (dRange1 (dCons (dC (.int 80)) dNil)) (.nm 12)
  (dSeq (dPar 10 11 (dCons (dVar 11) (dCons (dCall PG.sp__law_add_2 [] (dCons (dCall PG.sp__law_sub_2 [] (dCons (dCall PG.sp__law_mul_2 [] (dCons (dVar 2) (dCons (dVar 11) dNil))) (dCons (dVar 10) dNil))) (dCons (dVar 8) dNil))) dNil)))
  (dSet 9 (dOrV (dVar 9) (dOp rGt (dOp rIx (dVar 11) (dC (.int 0))) (dC (.int 0)))))))
  (dSeq (dIfS (dAnd (dTest (dOp rLt (dOp rMul (dOp rIx (dVar 2) (dC (.int 0))) (dOp rIx (dVar 2) (dC (.int 0)))) (dOp rMul (dOp rMul (dC (.int 4)) (dOp rIx (dVar 2) (dC (.int 1)))) (dOp rIx (dVar 2) (dC (.int 1)))))) (dTest (dOp rGt (dOp rIx (dVar 2) (dC (.int 1))) (dC (.int 1)))))
  (dSeq (dSet 13 (dCall PG.sp__law_div [] (dCons (dVar 8) (dCons (dCall PG.sp__law_sub_2 [] (dCons (dTup (dCons (dC (.int 2)) (dCons (dC (.int 1)) dNil))) (dCons (dVar 2) dNil))) dNil))))
  (dSeq (dSet 10 (dCall PG.sp__law_sub_2 [] (dCons (dVar 3) (dCons (dVar 13) dNil))))
  (dSeq (dSet 11 (dCall PG.sp__law_sub_2 [] (dCons (dVar 4) (dCons (dVar 13) dNil))))
  (dSeq (dSet 14 (dCall PG.sp__law_add_2 [] (dCons (dCall PG.sp__law_sub_2 [] (dCons (dCall PG.sp__law_mul_2 [] (dCons (dVar 10) (dCons (dVar 10) dNil))) (dCons (dCall PG.sp__law_mul_2 [] (dCons (dCall PG.sp__law_mul_2 [] (dCons (dVar 2) (dCons (dVar 10) dNil))) (dCons (dVar 11) dNil))) dNil))) (dCons (dCall PG.sp__law_mul_2 [] (dCons (dVar 11) (dCons (dVar 11) dNil))) dNil))))
  (dSeq (dSet 15 (dCall PG.sp__law_mul_2 [] (dCons (dTup (dCons (dC (.int 4)) (dCons (dC (.int 1)) dNil))) (dCons (dVar 14) dNil))))
  (dSeq (dSet 16 (dCall PG.sp__law_mul_2 [] (dCons (dCall PG.sp__law_mul_2 [] (dCons (dVar 13) (dCons (dVar 13) dNil))) (dCons (dCall PG.sp__law_sub_2 [] (dCons (dTup (dCons (dC (.int 4)) (dCons (dC (.int 1)) dNil))) (dCons (dCall PG.sp__law_mul_2 [] (dCons (dVar 2) (dCons (dVar 2) dNil))) dNil))) dNil))))
  (dSeq (dSet 17 (dOrV (dOp rGt (dOp rIx (dVar 13) (dC (.int 0))) (dC (.int 0))) (dCall PG.sp__law_less [] (dCons (dVar 16) (dCons (dVar 15) dNil)))))
  (dRet (dAndV (dCall PG.sp__law_same [] (dCons (dVar 6) (dCons (dNotV (dVar 17)) dNil))) (dOrV (dNotV (dVar 9)) (dVar 17)))))))))))
  dNext)
  (dRet (dCall PG.sp__law_same [] (dCons (dVar 6) (dCons (dNotV (dVar 9)) dNil)))))))))))))))
@[irreducible] def sp_law_38 : FSpec := spOf false 1 19 w_law_38

end PG

set_option maxRecDepth 100000
set_option maxHeartbeats 4000000
namespace PG
open PySem PySem.Spec PyProof.Rows L2 RT
theorem abs_eq (a : Int) : (if a < 0 then -a else a) = (a.natAbs : Int) := by
  split <;> omega
theorem gcd_ok {a b : Int} {st : List Cell} {Q : Vl → List Cell → Prop} (h : Q (.d (.int (Int.gcd a b : Int))) st) : sp_common_divisor [.d (.int a), .d (.int b)] st Q := by
  unfold sp_common_divisor
  refine ⟨rfl, ?_⟩
  refine ⟨fun n m => ∃ x y : Nat, m = ⟨[some (.d (.int a)), some (.d (.int b)), some (.d (.int x)), some (.d (.int y))], st⟩ ∧ n = y ∧ Nat.gcd x y = Int.gcd a b, ⟨b.natAbs, a.natAbs, b.natAbs, ?_, rfl, rfl⟩, ?_⟩
  · rw [← abs_eq a, ← abs_eq b]
    rfl
  · rintro y m ⟨x, _, rfl, rfl, hg⟩
    refine ⟨trivial, ?_⟩
    show if (decide ((0 : Int) < y)) = true then _ else _
    by_cases hy : (0 : Int) < y
    · rw [if_pos (decide_eq_true hy)]
      refine ⟨by omega, ?_⟩
      refine ⟨x % y, Nat.mod_lt _ (by omega), y, x % y, ?_, rfl, ?_⟩
      · rw [Int.natCast_emod, ← Int.fmod_eq_emod_of_nonneg _ (by omega)]
        rfl
      · rw [← hg, Nat.gcd_comm x y, Nat.gcd_rec y x, Nat.gcd_comm]
    · rw [if_neg (by simp; omega)]
      have e : y = 0 := by omega
      subst e
      rw [Nat.gcd_zero_right] at hg
      show Q (.d (.int x)) (st.take st.length)
      rw [List.take_length, hg]
      exact h

theorem tk {st : List Cell} {Q : Vl → List Cell → Prop} {v : Vl} (h : Q v st) : Q v (st.take st.length) := by
  rw [List.take_length]
  exact h
def fr (q : Rat) : Dt := .tup [.int q.num, .int q.den]
def zb (q : Rat) : Nat := max q.num.natAbs.log2 q.den.log2 + 2
theorem lineN {n : Nat} (h : Nat.ble n 1000 = true) : n ≤ sizeLine := Nat.le_trans (Nat.le_of_ble_eq_true h) (by decide)
theorem sign_self (d : Int) : d.sign * d = (d.natAbs : Int) := by
  rcases Int.lt_trichotomy d 0 with h | h | h
  · rw [Int.sign_eq_neg_one_of_neg h]
    omega
  · subst h
    rfl
  · rw [Int.sign_eq_one_of_pos h]
    omega
theorem sgn_div {n g s : Int} (hg : g ≠ 0) (h : g ∣ n) (hs : s = 1 ∨ s = -1) : n.fdiv (s * g) = s * n / g := by
  obtain ⟨k, rfl⟩ := h
  rcases hs with rfl | rfl
  · rw [Int.one_mul, Int.one_mul, Int.mul_fdiv_cancel_left _ hg, Int.mul_ediv_cancel_left _ hg]
  · rw [show g * k = (-1 * g) * (-k) by rw [Int.neg_one_mul, Int.neg_mul_neg], Int.mul_fdiv_cancel_left _ (by omega), show -1 * (-1 * g * -k) = g * (-k) by rw [Int.neg_one_mul, Int.neg_one_mul, Int.neg_mul, Int.neg_neg], Int.mul_ediv_cancel_left _ hg]
theorem fraction_ok {n d : Int} {st : List Cell} {Q : Vl → List Cell → Prop} (hd : d ≠ 0) (h : Q (.d (fr (Rat.divInt n d))) st) : sp_fraction [.d (.int n), .d (.int d)] st Q := by
  unfold sp_fraction
  refine ⟨rfl, ?_⟩
  refine gcd_ok ?_
  have hg : (Int.gcd n d : Int) ≠ 0 := by
    have : Int.gcd n d ≠ 0 := fun e => hd (Int.gcd_eq_zero_iff.mp e).2
    omega
  have hn : (Int.gcd n d : Int) ∣ n := Int.gcd_dvd_left ..
  have hd' : (Int.gcd n d : Int) ∣ d := Int.gcd_dvd_right ..
  have e1 : (Rat.divInt n d).num = d.sign * n / Int.gcd n d := by rw [Rat.num_divInt, Int.gcd_comm]
  have e2 : (((Rat.divInt n d).den : Nat) : Int) = d.sign * d / Int.gcd n d := by
    rw [Rat.den_divInt, if_neg hd, Int.natCast_ediv, Int.gcd_comm, sign_self]
  have fin : ∀ s : Int, (s = 1 ∨ s = -1) → s = d.sign → s * (Int.gcd n d : Int) ≠ 0 ∧ s * (Int.gcd n d : Int) ≠ 0 ∧ Q (.d (.tup [.int (n.fdiv (s * Int.gcd n d)), .int (d.fdiv (s * Int.gcd n d))])) st := fun s hs e => by
    refine ⟨by rcases hs with rfl | rfl <;> omega, by rcases hs with rfl | rfl <;> omega, ?_⟩
    rw [sgn_div hg hn hs, sgn_div hg hd' hs, e, ← e1, ← e2]
    exact h
  refine ⟨trivial, ?_⟩
  show if (decide (d < 0)) = true then _ else _
  by_cases hs : d < 0
  · rw [if_pos (decide_eq_true hs)]
    obtain ⟨a, b, c⟩ := fin (-1) (.inr rfl) (Int.sign_eq_neg_one_of_neg hs).symm
    rw [Int.neg_one_mul] at a b c
    exact ⟨a, b, lineN rfl, tk c⟩
  · rw [if_neg (by simp; omega)]
    obtain ⟨a, b, c⟩ := fin 1 (.inl rfl) (Int.sign_eq_one_of_pos (by omega)).symm
    rw [Int.one_mul] at a b c
    exact ⟨a, b, lineN rfl, tk c⟩

theorem log2_mul_le {a b : Nat} : (a * b).log2 ≤ a.log2 + b.log2 + 1 := by
  by_cases ha : a = 0
  · subst ha
    simp
  by_cases hb : b = 0
  · subst hb
    simp
  have h1 := Nat.lt_log2_self (n := a)
  have h2 := Nat.lt_log2_self (n := b)
  have h3 : a * b < 2 ^ (a.log2 + 1 + (b.log2 + 1)) := by
    rw [Nat.pow_add]
    exact Nat.mul_lt_mul'' h1 h2
  have h4 := (Nat.log2_lt (Nat.mul_ne_zero ha hb)).mpr h3
  omega
theorem log2_mono {a b : Nat} (h : a ≤ b) : a.log2 ≤ b.log2 := by
  by_cases ha : a = 0
  · subst ha
    simp
  have := Nat.lt_log2_self (n := b)
  have h4 := (Nat.log2_lt ha).mpr (Nat.lt_of_le_of_lt h this)
  omega
theorem log2_add_le {a b : Nat} : (a + b).log2 ≤ max a.log2 b.log2 + 1 := by
  have h1 : a + b ≤ 2 * max a b := by omega
  have h2 := log2_mono h1
  have h3 : (2 * max a b).log2 ≤ (max a b).log2 + 1 := by
    by_cases h : max a b = 0
    · rw [h]
      simp
    · rw [Nat.log2_two_mul h]
      exact Nat.le_refl _
  have h4 : (max a b).log2 ≤ max a.log2 b.log2 := by
    by_cases h : a ≤ b
    · rw [Nat.max_eq_right h]
      omega
    · rw [Nat.max_eq_left (by omega)]
      omega
  omega
theorem zb_divInt {n d : Int} (hd : d ≠ 0) : zb (Rat.divInt n d) ≤ max n.natAbs.log2 d.natAbs.log2 + 2 := by
  unfold zb
  have h1 : (Rat.divInt n d).num.natAbs ≤ n.natAbs := by
    rw [Rat.num_divInt]
    have : (d.sign * n / (d.gcd n : Int)).natAbs ≤ (d.sign * n).natAbs := Int.natAbs_ediv_le_natAbs ..
    rw [Int.natAbs_mul] at this
    have hs : d.sign.natAbs = 1 := by
      rcases Int.lt_or_gt_of_ne hd with h | h
      · rw [Int.sign_eq_neg_one_of_neg h]
        rfl
      · rw [Int.sign_eq_one_of_pos h]
        rfl
    rw [hs, Nat.one_mul] at this
    exact this
  have h2 : (Rat.divInt n d).den ≤ d.natAbs := by
    rw [Rat.den_divInt, if_neg hd]
    exact Nat.div_le_self ..
  have := log2_mono h1
  have := log2_mono h2
  omega
theorem zb_num (q : Rat) : q.num.natAbs.log2 + 2 ≤ zb q := by
  unfold zb
  omega
theorem zb_den (q : Rat) : q.den.log2 + 2 ≤ zb q := by
  unfold zb
  omega
theorem zb_add (x y : Rat) : zb (x + y) ≤ zb x + zb y := by
  have h := zb_divInt (n := x.num * y.den + y.num * x.den) (d := ((x.den * y.den : Nat) : Int)) (by
    have := x.den_nz
    have := y.den_nz
    have : x.den * y.den ≠ 0 := Nat.mul_ne_zero (by assumption) (by assumption)
    omega)
  rw [Rat.divInt_ofNat, ← Rat.add_def'] at h
  have hx1 := zb_num x
  have hx2 := zb_den x
  have hy1 := zb_num y
  have hy2 := zb_den y
  have m1 : (x.num * y.den).natAbs.log2 ≤ x.num.natAbs.log2 + y.den.log2 + 1 := by
    rw [Int.natAbs_mul, Int.natAbs_natCast]
    exact log2_mul_le
  have m2 : (y.num * x.den).natAbs.log2 ≤ y.num.natAbs.log2 + x.den.log2 + 1 := by
    rw [Int.natAbs_mul, Int.natAbs_natCast]
    exact log2_mul_le
  have m3 : (x.num * y.den + y.num * x.den).natAbs.log2 ≤ max (x.num * y.den).natAbs.log2 (y.num * x.den).natAbs.log2 + 1 :=
    Nat.le_trans (log2_mono (Int.natAbs_add_le ..)) log2_add_le
  have m4 : (((x.den * y.den : Nat) : Int)).natAbs.log2 ≤ x.den.log2 + y.den.log2 + 1 := by
    rw [Int.natAbs_natCast]
    exact log2_mul_le
  omega
theorem zb_mul (x y : Rat) : zb (x * y) ≤ zb x + zb y := by
  have h := zb_divInt (n := x.num * y.num) (d := ((x.den * y.den : Nat) : Int)) (by
    have := x.den_nz
    have := y.den_nz
    have : x.den * y.den ≠ 0 := Nat.mul_ne_zero (by assumption) (by assumption)
    omega)
  rw [Rat.divInt_ofNat, ← Rat.mul_def'] at h
  have hx1 := zb_num x
  have hx2 := zb_den x
  have hy1 := zb_num y
  have hy2 := zb_den y
  have m1 : (x.num * y.num).natAbs.log2 ≤ x.num.natAbs.log2 + y.num.natAbs.log2 + 1 := by
    rw [Int.natAbs_mul]
    exact log2_mul_le
  have m4 : (((x.den * y.den : Nat) : Int)).natAbs.log2 ≤ x.den.log2 + y.den.log2 + 1 := by
    rw [Int.natAbs_natCast]
    exact log2_mul_le
  omega
theorem zb_neg (x : Rat) : zb (-x) = zb x := by
  unfold zb
  rw [Rat.neg_num, Rat.neg_den, Int.natAbs_neg]
theorem zb_sub (x y : Rat) : zb (x - y) ≤ zb x + zb y := by
  rw [Rat.sub_eq_add_neg, ← zb_neg y]
  exact zb_add x (-y)
def ZM : Nat := 60000000
theorem mulok {i j : Int} (h : i.natAbs.log2 + j.natAbs.log2 < ZM) : MulOk i j := Nat.lt_trans h (by unfold ZM; decide)
section
variable {x y : Rat} {st : List Cell} {Q : Vl → List Cell → Prop}
theorem den_pos (x : Rat) : ((x.den : Nat) : Int) ≠ 0 := by
  have := x.den_nz
  omega
theorem mul_nn (x y : Rat) : ((x.den : Nat) : Int) * ((y.den : Nat) : Int) ≠ 0 := Int.mul_ne_zero (den_pos x) (den_pos y)
theorem mk_nn {i j : Nat} {a b : Int} (ha : a.natAbs.log2 + 2 ≤ i) (hb : b.natAbs.log2 + 2 ≤ j) (h : i + j < ZM) : MulOk a b := mulok (by omega)
theorem dn (x : Rat) : ((x.den : Nat) : Int).natAbs.log2 + 2 ≤ zb x := by
  rw [Int.natAbs_natCast]
  exact zb_den x
theorem add_ok (hz : zb x + zb y < ZM) (h : Q (.d (fr (x + y))) st) : sp_add [.d (fr x), .d (fr y)] st Q := by
  unfold sp_add
  refine ⟨rfl, ?_⟩
  refine ⟨mk_nn (zb_num x) (dn y) hz, mk_nn (zb_num y) (dn x) (by omega), mk_nn (dn x) (dn y) hz, ?_⟩
  refine fraction_ok (mul_nn x y) (tk ?_)
  rw [← Int.natCast_mul, Rat.divInt_ofNat, ← Rat.add_def']
  exact h
theorem negative_ok (h : Q (.d (fr (-x))) st) : sp_negative [.d (fr x)] st Q := by
  unfold sp_negative
  refine ⟨rfl, lineN rfl, tk ?_⟩
  have e : fr (-x) = .tup [.int (-x.num), .int x.den] := by
    unfold fr
    rw [Rat.neg_num, Rat.neg_den]
  rw [e] at h
  exact h
theorem subtract_ok (hz : zb x + zb y < ZM) (h : Q (.d (fr (x - y))) st) : sp_subtract [.d (fr x), .d (fr y)] st Q := by
  unfold sp_subtract
  refine ⟨rfl, ?_⟩
  refine negative_ok ?_
  refine add_ok (by rw [zb_neg]; exact hz) (tk ?_)
  rw [← Rat.sub_eq_add_neg]
  exact h
theorem multiply_ok (hz : zb x + zb y < ZM) (h : Q (.d (fr (x * y))) st) : sp_multiply [.d (fr x), .d (fr y)] st Q := by
  unfold sp_multiply
  refine ⟨rfl, ?_⟩
  refine ⟨mk_nn (zb_num x) (zb_num y) hz, mk_nn (dn x) (dn y) hz, ?_⟩
  refine fraction_ok (mul_nn x y) (tk ?_)
  rw [← Int.natCast_mul, Rat.divInt_ofNat, ← Rat.mul_def']
  exact h
theorem num_nz {y : Rat} (hy : y ≠ 0) : y.num ≠ 0 := fun e => hy (Rat.num_eq_zero.mp e)
theorem divide_ok (hy : y ≠ 0) (hz : zb x + zb y < ZM) (h : Q (.d (fr (x / y))) st) : sp_divide [.d (fr x), .d (fr y)] st Q := by
  unfold sp_divide
  refine ⟨rfl, ?_⟩
  refine ⟨mk_nn (zb_num x) (dn y) hz, mk_nn (dn x) (zb_num y) hz, ?_⟩
  refine fraction_ok (Int.mul_ne_zero (den_pos x) (num_nz hy)) (tk ?_)
  have e : Rat.divInt (x.num * (y.den : Int)) ((x.den : Int) * y.num) = x / y := by
    rw [Rat.div_def]
    have e1 : y⁻¹ = Rat.divInt y.den y.num := by
      have := Rat.inv_divInt y.num y.den
      rw [Rat.num_divInt_den] at this
      exact this
    rw [e1]
    conv => rhs; rw [← Rat.num_divInt_den x]
    rw [Rat.divInt_mul_divInt]
  rw [e]
  exact h
def sgn (x : Rat) : Int := if 0 < x then 1 else if x < 0 then -1 else 0
theorem num_neg_iff (x : Rat) : x.num < 0 ↔ x < 0 := by
  have h := Rat.num_nonneg (q := x)
  rw [← Rat.not_le, ← h]
  omega
theorem num_pos_iff (x : Rat) : 0 < x.num ↔ 0 < x := by
  have h := num_neg_iff (-x)
  rw [Rat.neg_num] at h
  have : (0 < x) ↔ (-x < 0) := by grind
  rw [this, ← h]
  omega
theorem sign_ok (h : Q (.d (.int (sgn x))) st) : sp_sign [.d (fr x)] st Q := by
  unfold sp_sign
  refine ⟨rfl, trivial, ?_⟩
  show if (decide ((0 : Int) < x.num)) = true then _ else _
  unfold sgn at h
  by_cases h1 : 0 < x
  · rw [if_pos (decide_eq_true ((num_pos_iff x).mpr h1))]
    rw [if_pos h1] at h
    exact tk h
  · rw [if_neg (by simp only [decide_eq_true_eq]; exact fun z => h1 ((num_pos_iff x).mp z))]
    rw [if_neg h1] at h
    refine ⟨trivial, ?_⟩
    show if (decide (x.num < 0)) = true then _ else _
    by_cases h2 : x < 0
    · rw [if_pos (decide_eq_true ((num_neg_iff x).mpr h2))]
      rw [if_pos h2] at h
      exact tk h
    · rw [if_neg (by simp only [decide_eq_true_eq]; exact fun z => h2 ((num_neg_iff x).mp z))]
      rw [if_neg h2] at h
      exact tk h
theorem compare_ok (hz : zb x + zb y < ZM) (h : Q (.d (.int (sgn (x - y)))) st) : sp_compare [.d (fr x), .d (fr y)] st Q := by
  unfold sp_compare
  refine ⟨rfl, subtract_ok hz (sign_ok (tk h))⟩
theorem sgn_lt (x y : Rat) : sgn (x - y) < 0 ↔ x < y := by
  unfold sgn
  grind
theorem sgn_le (x y : Rat) : sgn (x - y) ≤ 0 ↔ x ≤ y := by
  unfold sgn
  grind
theorem is_less_ok (hz : zb x + zb y < ZM) (h : Q (.d (.bl (decide (x < y)))) st) : sp_is_less [.d (fr x), .d (fr y)] st Q := by
  unfold sp_is_less
  refine ⟨rfl, compare_ok hz ⟨trivial, tk ?_⟩⟩
  have e : decide (sgn (x - y) < 0) = decide (x < y) := decide_eq_decide.mpr (sgn_lt x y)
  rw [← e] at h
  exact h
theorem is_at_most_ok (hz : zb x + zb y < ZM) (h : Q (.d (.bl (decide (x ≤ y)))) st) : sp_is_at_most [.d (fr x), .d (fr y)] st Q := by
  unfold sp_is_at_most
  refine ⟨rfl, compare_ok hz ⟨trivial, tk ?_⟩⟩
  have e : decide (sgn (x - y) ≤ 0) = decide (x ≤ y) := decide_eq_decide.mpr (sgn_le x y)
  rw [← e] at h
  exact h
end
end PG

set_option maxRecDepth 100000
set_option maxHeartbeats 4000000
namespace PG
open PySem PySem.Spec PyProof.Rows L2 RT

theorem range_inv {i : Nat} {b : DS} {all : List Dt} {E : DEnds} (I : Nat → Int → M → Prop)
    (hs : ∀ n lo m (K : M → Prop), (∀ m', I n (lo + 1) m' → K m') → I (n + 1) lo m → b ⟨K, E.rt, E.nx, K⟩ ⟨m.sl.set i (some (.d (.int lo))), m.st⟩) (hd : ∀ lo m, I 0 lo m → E.nx m) :
    ∀ (n : Nat) (lo : Int) (m : M), I n lo m → dLoop (.nm i) b all none E (rangeD lo n) m
  | 0, lo, m, h => ⟨trivial, hd lo m h⟩
  | n + 1, lo, m, h => ⟨trivial, hs n lo m _ (fun m' h' => range_inv I hs hd n (lo + 1) m' h') h⟩

def eu : Nat → Nat → Nat → Nat
  | 0, x, _ => x
  | j + 1, x, y => if 0 < y then eu j y (x % y) else eu j x y

theorem atI_int {ns : List Int} {k : Int} (h0 : 0 ≤ k) (h1 : k < ns.length) : atI (ns.map Dt.int) k = some (.int (ns.getD k.toNat 0)) := by
  unfold atI ixN
  rw [if_pos h0, List.length_map, if_pos h1]
  show (ns.map Dt.int)[k.toNat]? = _
  have hk : k.toNat < ns.length := by omega
  rw [List.getElem?_map, List.getD_eq_getElem?_getD, List.getElem?_eq_getElem hk]
  rfl
theorem getD_mem {ns : List Int} {k : Nat} (h : k < ns.length) : ns.getD k 0 ∈ ns := by
  rw [List.getD_eq_getElem?_getD, List.getElem?_eq_getElem h]
  exact List.getElem_mem h
theorem ix_ints {ns : List Int} {k : Int} {P : Dt → Prop} (h0 : 0 ≤ k) (h1 : k < ns.length) (h : P (.int (ns.getD k.toNat 0))) : RT.rIx (.lst (ns.map .int)) (.int k) P := onO_mk (atI_int h0 h1) h
def Bits (ns : List Int) : Prop := ∀ z ∈ ns, Builtin.Int.intBits z ≤ 1048576
theorem cell_ok {ns : List Int} {k : Int} {st : List Cell} {Q : Vl → List Cell → Prop} (hb : Bits ns) (h0 : 0 ≤ k) (h : ∀ v : Int, v.natAbs.log2 ≤ 1048576 → Q (.d (.int v)) st) : sp__law_cell [.d (.lst (ns.map .int)), .d (.int k)] st Q := by
  unfold sp__law_cell
  refine ⟨rfl, trivial, ?_⟩
  show if (decide (k < ((ns.map Dt.int).length : Int))) = true then _ else _
  rw [List.length_map]
  by_cases hk : k < (ns.length : Int)
  · rw [if_pos (decide_eq_true hk)]
    refine ix_ints h0 hk (tk (h _ ?_))
    have := hb _ (getD_mem (ns := ns) (k := k.toNat) (by omega))
    unfold Builtin.Int.intBits at this
    split at this
    · rename_i e
      have e' : ns.getD k.toNat 0 = 0 := by simpa using e
      rw [e']
      simp
    · omega
  · rw [if_neg (by simp; omega)]
    exact tk (h 0 (by simp))
def Dg (ds : List Int) : Prop := ∀ d ∈ ds, 0 ≤ d ∧ d < 1000
theorem Dg.app {ds : List Int} (h : Dg ds) {x : Int} (h0 : 0 ≤ x) (h1 : x < 1000) : Dg (ds ++ [x]) := fun d hd => by
  rcases List.mem_append.mp hd with z | z
  · exact h d z
  · rw [List.mem_singleton] at z
    rw [z]
    exact ⟨h0, h1⟩
theorem fmod_bd (a : Int) {n : Int} (h : 0 < n) : 0 ≤ a.fmod n ∧ a.fmod n < n := ⟨Int.fmod_nonneg_of_pos a h, Int.fmod_lt_of_pos a h⟩
theorem map_app (ds : List Int) (x : Int) : ds.map Dt.int ++ [Dt.int x] = (ds ++ [x]).map Dt.int := by simp

theorem getElem_last {α : Type} (l : List α) (x : α) : (l ++ [x])[l.length]? = some x := by simp
theorem set_last {α : Type} (l : List α) (x y : α) : (l ++ [x]).set l.length y = l ++ [y] := by simp

theorem push_st {st : List Cell} {ds : List Int} {x : Int} : (st ++ [Cell.lst (ds.map Dt.int)]).set st.length (Cell.lst (ds.map Dt.int ++ [Dt.int x])) = st ++ [Cell.lst ((ds ++ [x]).map Dt.int)] := by
  rw [set_last, map_app]
theorem k1000 : (1000 : Int) ≠ 0 := by decide
theorem k997 : (997 : Int) ≠ 0 := by decide
theorem kMx : (2147483647 : Int) ≠ 0 := by decide
theorem small_lt {n : Nat} (h : n < 16777216) : n < sizeLine := by
  rw [sizeLine_eq]
  exact h

theorem seq_mid {a b : DS} {E : DEnds} {m : M} (P : M → Prop) (h1 : ∀ K : M → Prop, (∀ m', P m' → K m') → a ⟨K, E.rt, E.bk, E.ct⟩ m) (h2 : ∀ m', P m' → b E m') : dSeq a b E m := h1 _ h2
theorem log2_small {v : Int} {n : Nat} (h0 : 0 ≤ v) (h : v < 2 ^ n) (hn : 0 < n) : v.natAbs.log2 < n := by
  by_cases hz : v.natAbs = 0
  · rw [hz]
    simpa using hn
  · refine (Nat.log2_lt hz).mpr ?_
    have : ((v.natAbs : Nat) : Int) < ((2 ^ n : Nat) : Int) := by
      rw [Int.natAbs_of_nonneg h0]
      push_cast
      exact h
    exact_mod_cast this
end PG

set_option maxRecDepth 100000
set_option maxHeartbeats 4000000
namespace PG
open PySem PySem.Spec PyProof.Rows L2 RT
theorem onJ_mk {o : Option Nat} {P : Nat → Prop} {j : Nat} (e : o = some j) (h : P j) : onJ o P := by
  subst e
  exact h
theorem onV_d {m : M} {x : Dt} {P : Dt → Prop} (h : P x) : onV m (.d x) P := h
theorem rIx_mk {xs : List Dt} {k : Int} {z : Dt} {P : Dt → Prop} (e : atI xs k = some z) (h : P z) : RT.rIx (.lst xs) (.int k) P := onO_mk e h
def Bx (ds : List Int) (i : Nat) : Cell := .lst [.lst (ds.map .int), .int i]
theorem onV_c {sl : List (Option Vl)} {st : List Cell} {k : Nat} {xs : List Dt} {P : Dt → Prop} (e : st[k]? = some (.lst xs)) (h : P (.lst xs)) : onV ⟨sl, st⟩ (.c k) P := by
  unfold onV view
  simp only [e]
  exact h
theorem zb_small {n d : Int} {b : Nat} (hd : 0 < d) (h1 : n.natAbs < 2 ^ b) (h2 : d.natAbs < 2 ^ b) (hb : 0 < b) : zb (Rat.divInt n d) ≤ b + 2 := by
  have h := zb_divInt (n := n) (d := d) (by omega)
  have l : ∀ z : Nat, z < 2 ^ b → z.log2 ≤ b := fun z hz => by
    by_cases e : z = 0
    · rw [e]
      simp
    · have := (Nat.log2_lt e).mpr hz
      omega
  have := l _ h1
  have := l _ h2
  omega
theorem eqD_int {a b : Int} : eqD (.int a) (.int b) = decide (a = b) := by
  show (a == b) = _
  rw [Bool.eq_iff_iff]
  simp
end PG

set_option maxRecDepth 100000
set_option maxHeartbeats 4000000
namespace PG
open PySem PySem.Spec PyProof.Rows L2 RT
section
variable {x y : Rat} {st : List Cell} {Q : Vl → List Cell → Prop}
end
theorem zm {a b : Nat} (h : a + b < 60000000) : a + b < ZM := h

theorem add_val (x y : Rat) : x + y = Rat.divInt (x.num * y.den + y.num * x.den) (x.den * y.den) := by
  rw [← Int.natCast_mul, Rat.divInt_ofNat, ← Rat.add_def']
theorem mul_val (x y : Rat) : x * y = Rat.divInt (x.num * y.num) (x.den * y.den) := by
  rw [← Int.natCast_mul, Rat.divInt_ofNat, ← Rat.mul_def']
theorem guard_st {c : DT} {t b : DS} {E : DEnds} {m : M} (m' : M) (hc : ∀ K : Bool → M → Prop, K false m' → c m K) (h : b E m') : dSeq (dIfS c t dNext) b E m := hc _ h
theorem div_val (x : Rat) {y : Rat} (hy : y ≠ 0) : x / y = Rat.divInt (x.num * y.den) (x.den * y.num) := by
  rw [Rat.div_def]
  have e1 : y⁻¹ = Rat.divInt y.den y.num := by
    have := Rat.inv_divInt y.num y.den
    rw [Rat.num_divInt_den] at this
    exact this
  rw [e1]
  conv => lhs; rw [← Rat.num_divInt_den x]
  rw [Rat.divInt_mul_divInt]
theorem eqD_bl {a b : Bool} : eqD (.bl a) (.bl b) = (a == b) := rfl
end PG

set_option maxRecDepth 100000
set_option maxHeartbeats 4000000
namespace PG
open PySem PySem.Spec PyProof.Rows L2 RT

mutual
theorem eqv_self : ∀ x : Dt, PyData.eqv (toPy x) (toPy x) = true
  | .non => by simp [toPy, PyData.eqv]
  | .bl b => by simp [toPy, PyData.eqv]
  | .int i => by simp [toPy, PyData.eqv]
  | .str s => by simp [toPy, PyData.eqv]
  | .tup ds => by
    simp only [toPy, PyData.eqv]
    exact eqvs_self ds
  | .lst ds => by
    simp only [toPy, PyData.eqv]
    exact eqvs_self ds
theorem eqvs_self : ∀ ds : List Dt, PyData.eqvAll (toPys ds) (toPys ds) = true
  | [] => by simp [toPys, PyData.eqvAll]
  | d :: ds => by
    simp only [toPys, PyData.eqvAll, eqv_self d, eqvs_self ds, Bool.and_self]
end
theorem eqD_self (x : Dt) : eqD x x = true := eqv_self x

mutual
def nb : Dt → Bool
  | .bl _ => false
  | .tup ds => nbs ds
  | .lst ds => nbs ds
  | .non => true
  | .int _ => true
  | .str _ => true
def nbs : List Dt → Bool
  | [] => true
  | d :: ds => nb d && nbs ds
end
mutual
theorem eqv_eq : ∀ x y : Dt, nb x = true → nb y = true → PyData.eqv (toPy x) (toPy y) = true → x = y
  | .bl _, _, h, _, _ => by simp [nb] at h
  | _, .bl _, _, h, _ => by simp [nb] at h
  | .non, .non, _, _, _ => rfl
  | .int i, .int j, _, _, h => by
    simp [toPy, PyData.eqv] at h
    rw [h]
  | .str i, .str j, _, _, h => by
    simp [toPy, PyData.eqv] at h
    rw [h]
  | .tup xs, .tup ys, h1, h2, h => by
    simp only [nb] at h1 h2
    simp only [toPy, PyData.eqv] at h
    rw [eqvs_eq xs ys h1 h2 h]
  | .lst xs, .lst ys, h1, h2, h => by
    simp only [nb] at h1 h2
    simp only [toPy, PyData.eqv] at h
    rw [eqvs_eq xs ys h1 h2 h]
  | .non, .int _, _, _, h | .non, .str _, _, _, h | .non, .tup _, _, _, h | .non, .lst _, _, _, h => by simp [toPy, PyData.eqv] at h
  | .int _, .non, _, _, h | .int _, .str _, _, _, h | .int _, .tup _, _, _, h | .int _, .lst _, _, _, h => by simp [toPy, PyData.eqv] at h
  | .str _, .non, _, _, h | .str _, .int _, _, _, h | .str _, .tup _, _, _, h | .str _, .lst _, _, _, h => by simp [toPy, PyData.eqv] at h
  | .tup _, .non, _, _, h | .tup _, .int _, _, _, h | .tup _, .str _, _, _, h | .tup _, .lst _, _, _, h => by simp [toPy, PyData.eqv] at h
  | .lst _, .non, _, _, h | .lst _, .int _, _, _, h | .lst _, .str _, _, _, h | .lst _, .tup _, _, _, h => by simp [toPy, PyData.eqv] at h
theorem eqvs_eq : ∀ xs ys : List Dt, nbs xs = true → nbs ys = true → PyData.eqvAll (toPys xs) (toPys ys) = true → xs = ys
  | [], [], _, _, _ => rfl
  | [], _ :: _, _, _, h => by simp [toPys, PyData.eqvAll] at h
  | _ :: _, [], _, _, h => by simp [toPys, PyData.eqvAll] at h
  | x :: xs, y :: ys, h1, h2, h => by
    simp only [nbs, Bool.and_eq_true] at h1 h2
    simp only [toPys, PyData.eqvAll, Bool.and_eq_true] at h
    rw [eqv_eq x y h1.1 h2.1 h.1, eqvs_eq xs ys h1.2 h2.2 h.2]
end
theorem eqD_iff {x y : Dt} (h1 : nb x = true) (h2 : nb y = true) : eqD x y = true ↔ x = y := ⟨eqv_eq x y h1 h2, fun e => e ▸ eqD_self x⟩

def Sh (n : Nat) (d : Dt) : Prop := (toPy d).canLay0 = true ∧ (toPy d).depth ≤ n
theorem sh_ok {n : Nat} {d : Dt} (h : Sh n d) (hn : Nat.ble n 64 = true := by rfl) : shD d := by
  unfold shD SeqAt.shaped
  rw [h.1, decide_eq_true (Nat.le_trans h.2 (Nat.le_of_ble_eq_true hn))]
  rfl
theorem canLays : ∀ {ds : List Dt}, (∀ d ∈ ds, (toPy d).canLay0 = true) → PyData.canLayAll0 (toPys ds) = true
  | [], _ => by simp [toPys, PyData.canLayAll0]
  | d :: ds, h => by
    simp only [toPys, PyData.canLayAll0, h d List.mem_cons_self, canLays fun x hx => h x (List.mem_cons_of_mem _ hx), Bool.and_self]
theorem depths : ∀ {n : Nat} {ds : List Dt}, (∀ d ∈ ds, (toPy d).depth ≤ n) → PyData.depthAll (toPys ds) ≤ n
  | n, [], _ => by simp [toPys, PyData.depthAll]
  | n, d :: ds, h => by
    have h1 := h d List.mem_cons_self
    have h2 := depths (n := n) (ds := ds) fun x hx => h x (List.mem_cons_of_mem _ hx)
    simp only [toPys, PyData.depthAll]
    omega
theorem sh_tup {n : Nat} {ds : List Dt} (h : ∀ d ∈ ds, Sh n d) : Sh (n + 1) (.tup ds) := by
  constructor
  · simp only [toPy, PyData.canLay0]
    exact canLays fun d hd => (h d hd).1
  · simp only [toPy, PyData.depth]
    have := depths (n := n) (ds := ds) fun d hd => (h d hd).2
    omega
theorem sh_lst {n : Nat} {ds : List Dt} (h : ∀ d ∈ ds, Sh n d) : Sh (n + 1) (.lst ds) := by
  constructor
  · simp only [toPy, PyData.canLay0]
    exact canLays fun d hd => (h d hd).1
  · simp only [toPy, PyData.depth]
    have := depths (n := n) (ds := ds) fun d hd => (h d hd).2
    omega
theorem sh_int {i : Int} {n : Nat} : Sh n (.int i) := ⟨rfl, Nat.zero_le _⟩
theorem sh_non {n : Nat} : Sh n .non := ⟨rfl, Nat.zero_le _⟩
theorem sh_str {s : Str} {n : Nat} (h : PyData.canLay0 (.str s) = true) : Sh n (.str s) := ⟨by simp only [toPy]; exact h, by simp [toPy, PyData.depth]⟩
theorem all_nil {P : Dt → Prop} : ∀ d ∈ ([] : List Dt), P d := fun _ h => nomatch h
theorem all_cons {P : Dt → Prop} {x : Dt} {r : List Dt} (h1 : P x) (h2 : ∀ d ∈ r, P d) : ∀ d ∈ x :: r, P d := fun d hd => by
  rcases List.mem_cons.mp hd with e | e
  · rw [e]
    exact h1
  · exact h2 d e
theorem all_map {α : Type} {P : Dt → Prop} {f : α → Dt} {l : List α} (h : ∀ a ∈ l, P (f a)) : ∀ d ∈ l.map f, P d := fun d hd => by
  obtain ⟨a, ha, rfl⟩ := List.mem_map.mp hd
  exact h a ha
theorem sh_fr {q : Rat} : Sh 1 (fr q) := sh_tup (all_cons sh_int (all_cons sh_int all_nil))
def ofr : Option Rat → Dt
  | none => .non
  | some q => fr q
theorem sh_ofr {o : Option Rat} : Sh 1 (ofr o) := by
  cases o with
  | none => exact sh_non
  | some q => exact sh_fr
theorem nb_fr (q : Rat) : nb (fr q) = true := rfl
theorem fr_inj {x y : Rat} : fr x = fr y ↔ x = y := by
  constructor
  · intro h
    unfold fr at h
    injection h with h
    injection h with h1 h
    injection h with h2 _
    injection h1 with h1
    injection h2 with h2
    exact Rat.ext h1 (by omega)
  · intro h
    rw [h]

section
variable {x y : Rat} {st : List Cell} {Q : Vl → List Cell → Prop}
theorem zz (h : zb x + zb y ≤ 200) : zb x + zb y < ZM := zm (by omega)
end
section
variable {ds : List Int} {i k : Nat} {st : List Cell} {Q : Vl → List Cell → Prop}
end
end PG

set_option maxRecDepth 100000
set_option maxHeartbeats 4000000
namespace PG
open PySem PySem.Spec PyProof.Rows L2 RT
theorem each_inv {i : Nat} {b : DS} {all : List Dt} {lk : Option Nat} {E : DEnds} {α : Type} (f : α → Dt) (I : List α → M → Prop) (hlk : ∀ r m, I r m → lockOk lk all m)
    (hs : ∀ x r m (K : M → Prop), (∀ m', I r m' → K m') → I (x :: r) m → b ⟨K, E.rt, E.nx, K⟩ ⟨m.sl.set i (some (.d (f x))), m.st⟩) (hd : ∀ m, I [] m → E.nx m) :
    ∀ (xs : List α) (m : M), I xs m → dLoop (.nm i) b all lk E (xs.map f) m
  | [], m, h => ⟨hlk _ m h, hd m h⟩
  | x :: r, m, h => ⟨hlk _ m h, hs x r m _ (fun m' h' => each_inv f I hlk hs hd r m' h') h⟩

def bstep (lt : Rat → Rat → Prop) [DecidableRel lt] (b : Option Rat) (v : Option Rat) : Option Rat := match v, b with
  | none, b => b
  | some x, none => some x
  | some x, some y => if lt x y then some x else some y
def least (xs : List (Option Rat)) : Option Rat := xs.foldl (bstep fun x y => x < y) none
def greatest (xs : List (Option Rat)) : Option Rat := xs.foldl (bstep fun x y => y < x) none
def Zs (n : Nat) (xs : List (Option Rat)) : Prop := ∀ q, some q ∈ xs → zb q ≤ n
theorem bstep_z {lt : Rat → Rat → Prop} [DecidableRel lt] {n : Nat} {b v : Option Rat} (hb : ∀ q, b = some q → zb q ≤ n) (hv : ∀ q, v = some q → zb q ≤ n) : ∀ q, bstep lt b v = some q → zb q ≤ n := fun q e => by
  cases v with
  | none => exact hb q e
  | some x =>
    cases b with
    | none => exact hv q e
    | some y =>
      unfold bstep at e
      simp only at e
      split at e
      · exact hv q e
      · exact hb q e
section
variable {st : List Cell} {Q : Vl → List Cell → Prop}
theorem best_ok {n : Nat} {xs : List (Option Rat)} (hz : Zs n xs) (hn : n + n < ZM) (h : Q (.d (ofr (least xs))) st) : sp_least_of [.d (.lst (xs.map ofr))] st Q := by
  unfold sp_least_of
  refine ⟨rfl, ?_⟩
  refine each_inv (lk := none) ofr (fun r m => ∃ b z, m = ⟨[some (.d (.lst (xs.map ofr))), some (.d (ofr b)), z], st⟩ ∧ (∀ q, b = some q → zb q ≤ n) ∧ Zs n r ∧ r.foldl (bstep fun x y => x < y) b = least xs) (fun _ _ _ => trivial) ?_ ?_ xs _ ⟨none, none, rfl, (fun q e => nomatch e), hz, rfl⟩
  · rintro x r _ K hK ⟨b, z, rfl, hb, hr, e⟩
    have hx : ∀ q, x = some q → zb q ≤ n := fun q e => hr q (e ▸ List.mem_cons_self)
    have hr' : Zs n r := fun q hq => hr q (List.mem_cons_of_mem _ hq)
    have go : K ⟨[some (.d (.lst (xs.map ofr))), some (.d (ofr (bstep (fun x y => x < y) b x))), some (.d (ofr x))], st⟩ := hK _ ⟨_, _, rfl, bstep_z hb hx, hr', e⟩
    cases x with
    | none => exact go
    | some x =>
      cases b with
      | none => exact go
      | some b =>
        have zx := hx x rfl
        have zb' := hb b rfl
        refine is_less_ok (x := x) (y := b) (Nat.lt_of_le_of_lt (Nat.add_le_add zx zb') hn) ?_
        show if (decide (x < b)) = true then _ else _
        unfold bstep at go
        simp only at go
        by_cases hlt : x < b
        · rw [if_pos (decide_eq_true hlt)]
          rw [if_pos hlt] at go
          exact go
        · rw [if_neg (by simpa using hlt)]
          rw [if_neg hlt] at go
          exact go
  · rintro _ ⟨b, z, rfl, _, _, e⟩
    have e' : b = least xs := e
    rw [← e'] at h
    exact tk h
def nearest (lo hi : Option Rat) : Rat := match lo, hi with
  | some l, some u => if 0 < l then l else if u < 0 then u else 0
  | some l, none => if 0 < l then l else 0
  | none, some u => if u < 0 then u else 0
  | none, none => 0
theorem sgn_pos (x : Rat) : (0 < sgn x) ↔ 0 < x := by
  unfold sgn
  grind
theorem sgn_neg (x : Rat) : (sgn x < 0) ↔ x < 0 := by
  unfold sgn
  grind
theorem nearest_ok {lo hi : Option Rat} (h : Q (.d (fr (nearest lo hi))) st) : sp_nearest_to_zero [.d (ofr lo), .d (ofr hi)] st Q := by
  have h0 : (∀ u, hi = some u → ¬ u < 0) → (∀ l, lo = some l → ¬ 0 < l) → nearest lo hi = 0 := fun a b => by
    cases lo <;> cases hi <;> simp_all [nearest]
  unfold sp_nearest_to_zero
  refine ⟨rfl, ?_⟩
  have two : (∀ l, lo = some l → ¬ 0 < l) → dSeq (dIfS (dAnd (dTest (dNotN (dVar 1))) (dTest (dOp rLt (dCall PG.sp_sign [] (dCons (dVar 1) dNil)) (dC (.int 0))))) (dRet (dVar 1)) dNext)
      (dRet (dC PG.v_ZERO)) (endsOf false st.length Q) ⟨[some (.d (ofr lo)), some (.d (ofr hi))], st⟩ := fun hl => by
    cases hi with
    | none =>
      rw [h0 (fun u e => by cases e) hl] at h
      exact tk h
    | some u =>
      refine sign_ok (x := u) ⟨trivial, ?_⟩
      show if (decide (sgn u < 0)) = true then _ else _
      by_cases hu : u < 0
      · rw [if_pos (decide_eq_true ((sgn_neg u).mpr hu))]
        have e : nearest lo (some u) = u := by
          cases lo <;> simp_all [nearest]
        rw [e] at h
        exact tk h
      · rw [if_neg (by simp only [decide_eq_true_eq]; exact fun z => hu ((sgn_neg u).mp z))]
        rw [h0 (fun u' e => by cases e; exact hu) hl] at h
        exact tk h
  cases lo with
  | none => exact two fun l e => by cases e
  | some l =>
    refine sign_ok (x := l) ⟨trivial, ?_⟩
    show if (decide (0 < sgn l)) = true then _ else _
    by_cases hl : 0 < l
    · rw [if_pos (decide_eq_true ((sgn_pos l).mpr hl))]
      have e : nearest (some l) hi = l := by
        cases hi <;> simp_all [nearest]
      rw [e] at h
      exact tk h
    · rw [if_neg (by simp only [decide_eq_true_eq]; exact fun z => hl ((sgn_pos l).mp z))]
      exact two fun l' e => by cases e; exact hl
end
end PG

set_option maxRecDepth 100000
set_option maxHeartbeats 4000000
namespace PG
open PySem PySem.Spec PyProof.Rows L2 RT

def In (D B : Nat) (q : Rat) : Prop := ∃ n : Int, q * (D : Rat) = (n : Rat) ∧ n.natAbs ≤ B * D
theorem in_add {D B C : Nat} {x y : Rat} : In D B x → In D C y → In D (B + C) (x + y) := fun ⟨n, h1, h2⟩ ⟨m, h3, h4⟩ => ⟨n + m, by rw [Rat.add_mul, h1, h3, ← Rat.intCast_add], by
  rw [Nat.add_mul]
  have := Int.natAbs_add_le n m
  omega⟩
theorem in_neg {D B : Nat} {x : Rat} : In D B x → In D B (-x) := fun ⟨n, h1, h2⟩ => ⟨-n, by rw [Rat.neg_mul, h1, Rat.intCast_neg], by rw [Int.natAbs_neg]; exact h2⟩
theorem in_sub {D B C : Nat} {x y : Rat} (h1 : In D B x) (h2 : In D C y) : In D (B + C) (x - y) := by
  rw [Rat.sub_eq_add_neg]
  exact in_add h1 (in_neg h2)
theorem in_mul {D B E C : Nat} {x y : Rat} : In D B x → In E C y → In (D * E) (B * C) (x * y) := fun ⟨n, h1, h2⟩ ⟨m, h3, h4⟩ => ⟨n * m, by
  rw [Rat.intCast_mul, ← h1, ← h3, Rat.natCast_mul]
  grind, by
  rw [Int.natAbs_mul, show B * C * (D * E) = (B * D) * (C * E) by simp only [Nat.mul_assoc, Nat.mul_left_comm, Nat.mul_comm]]
  exact Nat.mul_le_mul h2 h4⟩
theorem in_up {D B k : Nat} {x : Rat} (hk : 0 < k) : In D B x → In (D * k) B x := fun ⟨n, h1, h2⟩ => ⟨n * k, by
  rw [Rat.intCast_mul, ← h1, Rat.natCast_mul]
  simp only [Rat.intCast_natCast]
  grind, by
  rw [Int.natAbs_mul, Int.natAbs_natCast, ← Nat.mul_assoc]
  exact Nat.mul_le_mul_right _ h2⟩
theorem in_le {D B C : Nat} {x : Rat} (h : B ≤ C) : In D B x → In D C x := fun ⟨n, h1, h2⟩ => ⟨n, h1, Nat.le_trans h2 (Nat.mul_le_mul_right _ h)⟩
theorem in_val {D B : Nat} {x : Rat} (hD : 0 < D) : In D B x → ∃ n : Int, x = Rat.divInt n D ∧ n.natAbs ≤ B * D := fun ⟨n, h1, h2⟩ => ⟨n, by
  rw [Rat.divInt_eq_div]
  have : (D : Rat) ≠ 0 := by
    have : D ≠ 0 := by omega
    simpa using this
  simp only [Rat.intCast_natCast]
  rw [← h1]
  grind, h2⟩
theorem in_zb {D B b : Nat} {x : Rat} (hD : 0 < D) (h : In D B x) (h1 : B * D < 2 ^ b) (h2 : D < 2 ^ b) (hb : 0 < b) : zb x ≤ b + 2 := by
  obtain ⟨n, e, hn⟩ := in_val hD h
  rw [e]
  exact zb_small (by omega) (by omega) (by omega) hb
theorem in_div {D B : Nat} {n : Int} {d : Nat} (hd : 0 < d) (hD : ∃ k, D = d * k) (h : n.natAbs ≤ B * d) : In D B (Rat.divInt n d) := by
  obtain ⟨k, rfl⟩ := hD
  refine ⟨n * k, ?_, ?_⟩
  · rw [Rat.divInt_eq_div, Rat.natCast_mul, Rat.intCast_mul]
    simp only [Rat.intCast_natCast]
    have : (d : Rat) ≠ 0 := by
      have : d ≠ 0 := by omega
      simpa using this
    grind
  · rw [Int.natAbs_mul, Int.natAbs_natCast, ← Nat.mul_assoc]
    exact Nat.mul_le_mul_right _ h
end PG

set_option maxRecDepth 100000
set_option maxHeartbeats 4000000
namespace PG
open PySem PySem.Spec PyProof.Rows L2 RT
theorem guard_end {c : DT} {t : DS} {E : DEnds} {m : M} (P : M → Prop) (hc : ∀ K : Bool → M → Prop, (∀ m', P m' → K false m') → c m K) (h : ∀ m', P m' → E.nx m') : dIfS c t dNext E m := hc _ h
theorem ifs_t {c : DT} {t u : DS} {E : DEnds} {m : M} (m' : M) (hc : ∀ K : Bool → M → Prop, K true m' → c m K) (h : t E m') : dIfS c t u E m := hc _ (by rw [if_pos rfl]; exact h)
def fz (k : Nat) (xs : List Dt) : Option Vl → Option Vl := fun o => match o with
  | some (.c j) => if j = k then some (.d (.lst xs)) else some (.c j)
  | o => o
end PG

set_option maxRecDepth 100000
set_option maxHeartbeats 4000000
namespace PG
open PySem PySem.Spec PyProof.Rows L2 RT
def Pn (q : Rat) : Prop := ∃ (a : Int) (z : Nat), q = Rat.divInt a z ∧ a.natAbs ≤ 6 ∧ 0 < z ∧ z ≤ 4
theorem dvd12 {z : Nat} (h : 0 < z) (h4 : z ≤ 4) : ∃ k, 12 = z * k := by
  have : z = 1 ∨ z = 2 ∨ z = 3 ∨ z = 4 := by omega
  rcases this with rfl | rfl | rfl | rfl
  · exact ⟨12, rfl⟩
  · exact ⟨6, rfl⟩
  · exact ⟨4, rfl⟩
  · exact ⟨3, rfl⟩
theorem Pn.in_ {q : Rat} : Pn q → In 12 6 q := fun ⟨a, z, e, h1, h2, h3⟩ => by
  rw [e]
  exact in_div h2 (dvd12 h2 h3) (Nat.le_trans h1 (Nat.le_mul_of_pos_right _ h2))
theorem Pn.zb {q : Rat} (h : Pn q) : zb q ≤ 9 := in_zb (b := 7) (by decide) h.in_ (by decide) (by decide) (by decide)
theorem inv_divInt (a z : Int) : (Rat.divInt a z)⁻¹ = Rat.divInt z a := Rat.inv_divInt a z
section
variable {ds : List Int} {i k : Nat} {st : List Cell} {Q : Vl → List Cell → Prop}
end

inductive El where
  | gap (g : Rat) | lens (p c : Rat) | prism (d : Rat) | afocal (m : Rat) | stop (lo hi : Option Rat)
def elD : El → Dt
  | .gap g => .tup [.str ("gap" : Str), fr g]
  | .lens p c => .tup [.str ("lens" : Str), fr p, fr c]
  | .prism d => .tup [.str ("prism" : Str), fr d]
  | .afocal m => .tup [.str ("afocal" : Str), fr m]
  | .stop lo hi => .tup [.str ("stop" : Str), ofr lo, ofr hi]
def ElIn : El → Prop
  | .gap g => Pn g
  | .lens p c => Pn p ∧ Pn c
  | .prism d => Pn d
  | .afocal m => Pn m ∧ m ≠ 0
  | .stop lo hi => (∀ q, lo = some q → In 12 12 q) ∧ ∀ q, hi = some q → In 12 12 q
section
variable {ds : List Int} {i k : Nat} {st : List Cell} {Q : Vl → List Cell → Prop}
end
end PG

set_option maxRecDepth 100000
set_option maxHeartbeats 4000000
namespace PG
open PySem PySem.Spec PyProof.Rows L2 RT
section
variable {ds : List Int} {i k : Nat} {st : List Cell} {Q : Vl → List Cell → Prop}
end

abbrev Ray := Rat × Rat
def rayD (r : Ray) : Dt := .tup [fr r.1, fr r.2]
def behind : El → Ray → Ray
  | .gap g, r => (r.1 + g * r.2, r.2)
  | .lens p c, r => (r.1, r.2 - p * (r.1 - c))
  | .prism d, r => (r.1, r.2 + d)
  | .afocal m, r => (m * r.1, r.2 * m⁻¹)
  | .stop _ _, r => r
def Rb (j : Nat) (r : Ray) : Prop := In (12 * 60 ^ j) (6 * 13 ^ j) r.1 ∧ In (12 * 60 ^ j) (6 * 13 ^ j) r.2
theorem eqS (a b : Str) : eqD (.str a) (.str b) = decide (a = b) := by
  show (a == b) = _
  rw [Bool.eq_iff_iff]
  simp
theorem shS {s : Str} (h : PyData.canLay0 (.str s) = true) : shD (.str s) := sh_ok (n := 0) (sh_str h)
theorem s_gap : shD (.str ("gap" : Str)) := shS (by decide +kernel)
theorem s_lens : shD (.str ("lens" : Str)) := shS (by decide +kernel)
theorem s_prism : shD (.str ("prism" : Str)) := shS (by decide +kernel)
theorem s_afocal : shD (.str ("afocal" : Str)) := shS (by decide +kernel)
theorem s_stop : shD (.str ("stop" : Str)) := shS (by decide +kernel)
theorem str_ne {a b : Str} {A B : Prop} (h : decide (a = b) = false) (hB : B) : if eqD (.str a) (.str b) = true then A else B := by
  rw [eqS, h]
  exact hB
theorem str_eq {a : Str} {A B : Prop} (hA : A) : if eqD (.str a) (.str a) = true then A else B := by
  rw [eqD_self]
  exact hA
theorem ne_lg : decide (("lens" : Str) = "gap") = false := by decide +kernel
theorem ne_pg : decide (("prism" : Str) = "gap") = false := by decide +kernel
theorem ne_ag : decide (("afocal" : Str) = "gap") = false := by decide +kernel
theorem ne_sg : decide (("stop" : Str) = "gap") = false := by decide +kernel
theorem ne_pl : decide (("prism" : Str) = "lens") = false := by decide +kernel
theorem ne_al : decide (("afocal" : Str) = "lens") = false := by decide +kernel
theorem ne_sl : decide (("stop" : Str) = "lens") = false := by decide +kernel
theorem ne_ap : decide (("afocal" : Str) = "prism") = false := by decide +kernel
theorem ne_sp : decide (("stop" : Str) = "prism") = false := by decide +kernel
theorem ne_sa : decide (("stop" : Str) = "afocal") = false := by decide +kernel
theorem ne_gs : decide (("gap" : Str) = "stop") = false := by decide +kernel
theorem ne_ls : decide (("lens" : Str) = "stop") = false := by decide +kernel
theorem ne_ps : decide (("prism" : Str) = "stop") = false := by decide +kernel
theorem ne_as : decide (("afocal" : Str) = "stop") = false := by decide +kernel
section
variable {st : List Cell} {Q : Vl → List Cell → Prop}
theorem zb_inv {m : Rat} : zb m⁻¹ ≤ zb m := by
  have h : m⁻¹ = Rat.divInt m.den m.num := by
    conv => lhs; rw [← Rat.num_divInt_den m]
    rw [inv_divInt]
  by_cases hm : m = 0
  · rw [hm, Rat.inv_zero]
    exact Nat.le_refl _
  · rw [h]
    have := zb_divInt (n := (m.den : Int)) (num_nz hm)
    rw [Int.natAbs_natCast] at this
    unfold zb at this ⊢
    omega
def Zo (n : Nat) (o : Option Rat) : Prop := ∀ q, o = some q → zb q ≤ n
theorem ElIn.zo {lo hi : Option Rat} (h : ElIn (.stop lo hi)) : Zo 10 lo ∧ Zo 10 hi := ⟨fun q e => in_zb (b := 8) (by decide) (h.1 q e) (by decide) (by decide) (by decide), fun q e => in_zb (b := 8) (by decide) (h.2 q e) (by decide) (by decide) (by decide)⟩
def ElZ (n : Nat) : El → Prop
  | .gap g => zb g ≤ n
  | .lens p c => zb p ≤ n ∧ zb c ≤ n
  | .prism d => zb d ≤ n
  | .afocal m => zb m ≤ n ∧ m ≠ 0
  | .stop lo hi => Zo n lo ∧ Zo n hi
theorem ElIn.z {e : El} (h : ElIn e) : ElZ 10 e := by
  cases e with
  | gap g => exact Nat.le_trans (Pn.zb h) (by decide)
  | lens p c => exact ⟨Nat.le_trans (Pn.zb h.1) (by decide), Nat.le_trans (Pn.zb h.2) (by decide)⟩
  | prism d => exact Nat.le_trans (Pn.zb h) (by decide)
  | afocal m => exact ⟨Nat.le_trans (Pn.zb h.1) (by decide), h.2⟩
  | stop lo hi => exact ElIn.zo h
def oray : Option Ray → Dt
  | none => .non
  | some r => rayD r
end
end PG

set_option maxRecDepth 100000
set_option maxHeartbeats 4000000
namespace PG
open PySem PySem.Spec PyProof.Rows L2 RT
theorem atI_map {α : Type} {f : α → Dt} {xs : List α} {k : Nat} {x : α} (h : xs[k]? = some x) : atI (xs.map f) (k : Int) = some (f x) := by
  have hk : k < xs.length := (List.getElem?_eq_some_iff.mp h).1
  unfold atI ixN
  rw [if_pos (by omega), List.length_map, if_pos (by omega)]
  show (xs.map f)[((k : Int)).toNat]? = _
  rw [Int.toNat_natCast, List.getElem?_map, h]
  rfl
theorem enum_inv {α : Type} {i j : Nat} {f : α → Dt} {b : DS} {all : List Dt} {E : DEnds} (I : Nat → List α → M → Prop)
    (hs : ∀ k x r m (K : M → Prop), (∀ m', I (k + 1) r m' → K m') → I k (x :: r) m → b ⟨K, E.rt, E.nx, K⟩ ⟨(m.sl.set i (some (.d (.int k)))).set j (some (.d (f x))), m.st⟩) (hd : ∀ k m, I k [] m → E.nx m) :
    ∀ (xs : List α) (k : Nat) (m : M), I k xs m → dLoop (.tp [i, j]) b all none E (enumD k (xs.map f)) m
  | [], k, m, h => ⟨trivial, hd k m h⟩
  | x :: r, k, m, h => ⟨trivial, rfl, hs k x r m _ (fun m' h' => enum_inv I hs hd r (k + 1) m' h') h⟩

structure Gr (n : Nat) (es : List El) (r0 : Ray) (R : Nat → Ray → Prop) : Prop where
  st : R 0 r0
  step : ∀ j e r, j < es.length → e ∈ es → R j r → R (j + 1) (behind e r)
  z : ∀ j r, j ≤ es.length → R j r → zb r.1 ≤ n ∧ zb r.2 ≤ n
theorem fz_st {st : List Cell} {c d : Cell} : ((st ++ [c]).set st.length d).take st.length = st := by
  rw [set_last, List.take_left]
section
variable {st : List Cell} {Q : Vl → List Cell → Prop} {es : List El} {r0 : Ray} {R : Nat → Ray → Prop} {n : Nat}
end
end PG

set_option maxRecDepth 100000
set_option maxHeartbeats 4000000
namespace PG
open PySem PySem.Spec PyProof.Rows L2 RT
end PG

set_option maxRecDepth 100000
set_option maxHeartbeats 4000000
namespace PG
open PySem PySem.Spec PyProof.Rows L2 RT

structure Mp where
  a : Rat
  b : Rat
  c : Rat
  d : Rat
  e : Rat
  f : Rat
def mpD (m : Mp) : Dt := .tup [fr m.a, fr m.b, fr m.c, fr m.d, fr m.e, fr m.f]
def idM : Mp := ⟨1, 0, 0, 1, 0, 0⟩
def appM (m : Mp) (r : Ray) : Ray := (m.a * r.1 + m.b * r.2 + m.e, m.c * r.1 + m.d * r.2 + m.f)
def comp (x y : Mp) : Mp := ⟨y.a * x.a + y.b * x.c, y.a * x.b + y.b * x.d, y.c * x.a + y.d * x.c, y.c * x.b + y.d * x.d, y.a * x.e + y.b * x.f + y.e, y.c * x.e + y.d * x.f + y.f⟩
def elM : El → Mp
  | .gap g => ⟨1, g, 0, 1, 0, 0⟩
  | .lens p c => ⟨1, 0, -p, 1, 0, p * c⟩
  | .prism d => ⟨1, 0, 0, 1, 0, d⟩
  | .afocal m => ⟨m, 0, 0, 1 / m, 0, 0⟩
  | .stop _ _ => idM
def det (m : Mp) : Rat := m.a * m.d - m.b * m.c
def transfer (es : List El) : Mp := es.foldl (fun m e => comp m (elM e)) idM
theorem Mp.ext {x y : Mp} (h1 : x.a = y.a) (h2 : x.b = y.b) (h3 : x.c = y.c) (h4 : x.d = y.d) (h5 : x.e = y.e) (h6 : x.f = y.f) : x = y := by
  cases x
  cases y
  simp_all
theorem comp_id (m : Mp) : comp idM m = m := by
  refine Mp.ext ?_ ?_ ?_ ?_ ?_ ?_ <;> simp [comp, idM] <;> grind
theorem id_comp (m : Mp) : comp m idM = m := by
  refine Mp.ext ?_ ?_ ?_ ?_ ?_ ?_ <;> simp [comp, idM] <;> grind
theorem comp_assoc (x y z : Mp) : comp (comp x y) z = comp x (comp y z) := by
  refine Mp.ext ?_ ?_ ?_ ?_ ?_ ?_ <;> simp only [comp] <;> grind
theorem det_comp (x y : Mp) : det (comp x y) = det x * det y := by
  simp only [det, comp]
  grind
def ElOk : El → Prop
  | .afocal m => m ≠ 0
  | _ => True
theorem ElIn.ok {e : El} (h : ElIn e) : ElOk e := by
  cases e <;> first | trivial | exact h.2
theorem det_el {e : El} (h : ElOk e) : det (elM e) = 1 := by
  cases e with
  | afocal m =>
    have h : m ≠ 0 := h
    simp only [det, elM]
    grind
  | _ => simp only [det, elM, idM] <;> grind
theorem fold_comp : ∀ (es : List El) (m : Mp), es.foldl (fun m e => comp m (elM e)) m = comp m (transfer es)
  | [], m => by rw [transfer]; simp only [List.foldl_nil]; rw [id_comp]
  | e :: es, m => by
    rw [transfer, List.foldl_cons, List.foldl_cons, fold_comp es, fold_comp es, comp_id, comp_assoc]
theorem transfer_cons (e : El) (es : List El) : transfer (e :: es) = comp (elM e) (transfer es) := by
  rw [transfer, List.foldl_cons, fold_comp, comp_id]
theorem transfer_append (xs ys : List El) : transfer (xs ++ ys) = comp (transfer xs) (transfer ys) := by
  rw [transfer, List.foldl_append, fold_comp]
  rfl
theorem transfer_one (e : El) : transfer [e] = elM e := by
  rw [transfer_cons]
  exact id_comp _
theorem det_transfer : ∀ {es : List El}, (∀ e ∈ es, ElOk e) → det (transfer es) = 1
  | [], _ => by
    show det idM = 1
    simp only [det, idM]
    grind
  | e :: es, h => by
    rw [transfer_cons, det_comp, det_el (h e List.mem_cons_self), det_transfer fun x hx => h x (List.mem_cons_of_mem _ hx)]
    grind

def MZ (n : Nat) (m : Mp) : Prop := (zb m.a ≤ n ∧ zb m.b ≤ n ∧ zb m.c ≤ n) ∧ zb m.d ≤ n ∧ zb m.e ≤ n ∧ zb m.f ≤ n
def MRb (j : Nat) (m : Mp) : Prop := Rb j (m.a, m.c) ∧ Rb j (m.b, m.d) ∧ Rb j (m.e, m.f)
theorem rb_zb2 {j : Nat} {r : Ray} (hr : Rb j r) : zb r.1 ≤ 9 + 10 * j ∧ zb r.2 ≤ 9 + 10 * j := by
  have p : 780 ^ j ≤ 2 ^ (10 * j) := by
    rw [Nat.pow_mul]
    exact Nat.pow_le_pow_left (by decide) j
  have p60 : 60 ^ j ≤ 2 ^ (10 * j) := by
    rw [Nat.pow_mul]
    exact Nat.pow_le_pow_left (by decide) j
  have e : 6 * 13 ^ j * (12 * 60 ^ j) = 72 * 780 ^ j := by
    rw [show (780 : Nat) = 13 * 60 from rfl, Nat.mul_pow, Nat.mul_mul_mul_comm]
  have e2 : 2 ^ (7 + 10 * j) = 128 * 2 ^ (10 * j) := by rw [Nat.pow_add]
  have e3 : 0 < 2 ^ (10 * j) := Nat.pow_pos (by decide)
  have a : 6 * 13 ^ j * (12 * 60 ^ j) < 2 ^ (7 + 10 * j) := by
    rw [e, e2]
    omega
  have b : 12 * 60 ^ j < 2 ^ (7 + 10 * j) := by
    rw [e2]
    omega
  have c : 0 < 12 * 60 ^ j := Nat.mul_pos (by decide) (Nat.pow_pos (by decide))
  have h1 := in_zb (b := 7 + 10 * j) c hr.1 a b (by omega)
  have h2 := in_zb (b := 7 + 10 * j) c hr.2 a b (by omega)
  exact ⟨by omega, by omega⟩
theorem MRb.z {j : Nat} {m : Mp} (h : MRb j m) : MZ (9 + 10 * j) m := by
  obtain ⟨h1, h2, h3⟩ := h
  have a1 := rb_zb2 h1
  have a2 := rb_zb2 h2
  have a3 := rb_zb2 h3
  exact ⟨⟨a1.1, a2.1, a1.2⟩, a2.2, a3.1, a3.2⟩
def lin : El → El
  | .lens p _ => .lens p 0
  | .prism _ => .prism 0
  | e => e
end PG

set_option maxRecDepth 100000
set_option maxHeartbeats 4000000
namespace PG
open PySem PySem.Spec PyProof.Rows L2 RT
section
variable {st : List Cell} {Q : Vl → List Cell → Prop}
theorem seq_to {a b : DS} {E : DEnds} {m : M} (m' : M) (h1 : ∀ K : M → Prop, K m' → a ⟨K, E.rt, E.bk, E.ct⟩ m) (h2 : b E m') : dSeq a b E m := h1 _ h2
theorem weighted_ok {a b c d : Rat} (hz : zb a + zb b + (zb c + zb d) < ZM) (h : Q (.d (fr (a * b + c * d))) st) : sp_weighted [.d (fr a), .d (fr b), .d (fr c), .d (fr d)] st Q := by
  unfold sp_weighted
  have h1 := zb_mul a b
  have h2 := zb_mul c d
  refine ⟨rfl, multiply_ok (by omega) ?_⟩
  refine multiply_ok (by omega) ?_
  exact add_ok (by omega) (tk h)
theorem apply_ok {m : Mp} {r : Ray} {n : Nat} (hm : MZ n m) (h1 : zb r.1 ≤ n) (h2 : zb r.2 ≤ n) (hn : n ≤ 1000000) (h : Q (.d (rayD (appM m r))) st) : sp_apply_map [.d (mpD m), .d (rayD r)] st Q := by
  obtain ⟨⟨ha, hb, hc⟩, hd, he, hf⟩ := hm
  unfold sp_apply_map
  refine ⟨rfl, rfl, ?_⟩
  have z : ∀ {a b c d : Rat}, zb a ≤ n → zb b ≤ n → zb c ≤ n → zb d ≤ n → zb (a * b + c * d) ≤ 4 * n := fun {a b c d} q1 q2 q3 q4 => by
    have h1 := zb_mul a b
    have h2 := zb_mul c d
    have h3 := zb_add (a * b) (c * d)
    omega
  refine weighted_ok (zm (by omega)) ?_
  have := z ha h1 hb h2
  refine add_ok (zm (by omega)) ?_
  refine weighted_ok (zm (by omega)) ?_
  have := z hc h1 hd h2
  refine add_ok (zm (by omega)) ?_
  exact ⟨lineN rfl, tk h⟩
theorem z4 {n : Nat} {a b c d : Rat} (q1 : zb a ≤ n) (q2 : zb b ≤ n) (q3 : zb c ≤ n) (q4 : zb d ≤ n) : zb (a * b + c * d) ≤ 4 * n := by
  have h1 := zb_mul a b
  have h2 := zb_mul c d
  have h3 := zb_add (a * b) (c * d)
  omega
theorem z2 {n : Nat} {a b c d : Rat} (q1 : zb a ≤ n) (q2 : zb b ≤ n) (q3 : zb c ≤ n) (q4 : zb d ≤ n) (hn : n ≤ 1000000) : zb a + zb b + (zb c + zb d) < ZM := zm (by omega)
theorem MZ.le {a b : Nat} {m : Mp} (h : MZ a m) (hab : a ≤ b) : MZ b m := by
  unfold MZ at *
  omega
theorem compose_ok {x y : Mp} {n : Nat} (hx : MZ n x) (hy : MZ n y) (hn : n ≤ 1000000) (h : Q (.d (mpD (comp x y))) st) : sp_compose_maps [.d (mpD x), .d (mpD y)] st Q := by
  obtain ⟨⟨a1, b1, c1⟩, d1, e1, f1⟩ := hx
  obtain ⟨⟨a2, b2, c2⟩, d2, e2, f2⟩ := hy
  unfold sp_compose_maps
  refine ⟨rfl, ?_⟩
  let d : Rat → Option Vl := fun q => some (.d (fr q))
  let S : Option Vl → Option Vl → Option Vl → M := fun u v w => ⟨[some (.d (mpD x)), some (.d (mpD y)), d x.a, d x.b, d x.c, d x.d, d x.e, d x.f, d y.a, d y.b, d y.c, d y.d, d y.e, d y.f, u, v, w], st⟩
  refine seq_to ⟨[some (.d (mpD x)), some (.d (mpD y)), d x.a, d x.b, d x.c, d x.d, d x.e, d x.f, none, none, none, none, none, none, none, none, none], st⟩ (fun K hK => ⟨rfl, hK⟩) ?_
  refine seq_to (S none none none) (fun K hK => ⟨rfl, hK⟩) ?_
  refine seq_to (S (some (.d (.tup [fr (y.a * x.a + y.b * x.c), fr (y.a * x.b + y.b * x.d)]))) none none) (fun K hK => weighted_ok (z2 a2 a1 b2 c1 hn) (weighted_ok (z2 a2 b1 b2 d1 hn) ⟨lineN rfl, hK⟩)) ?_
  refine seq_to (S (some (.d (.tup [fr (y.a * x.a + y.b * x.c), fr (y.a * x.b + y.b * x.d)]))) (some (.d (.tup [fr (y.c * x.a + y.d * x.c), fr (y.c * x.b + y.d * x.d)]))) none) (fun K hK => weighted_ok (z2 c2 a1 d2 c1 hn) (weighted_ok (z2 c2 b1 d2 d1 hn) ⟨lineN rfl, hK⟩)) ?_
  have h1 := z4 a2 e1 b2 f1
  have h2 := z4 c2 e1 d2 f1
  refine seq_to (S (some (.d (.tup [fr (y.a * x.a + y.b * x.c), fr (y.a * x.b + y.b * x.d)]))) (some (.d (.tup [fr (y.c * x.a + y.d * x.c), fr (y.c * x.b + y.d * x.d)]))) (some (.d (.tup [fr (y.a * x.e + y.b * x.f + y.e), fr (y.c * x.e + y.d * x.f + y.f)]))))
    (fun K hK => weighted_ok (z2 a2 e1 b2 f1 hn) (add_ok (zm (by omega)) (weighted_ok (z2 c2 e1 d2 f1 hn) (add_ok (zm (by omega)) ⟨lineN rfl, hK⟩)))) ?_
  exact ⟨lineN rfl, lineN rfl, tk h⟩
theorem v_one : v_ONE = fr 1 := rfl
theorem v_zero : v_ZERO = fr 0 := rfl
theorem elmap_ok {e : El} {n : Nat} (he : ElZ n e) (hn : n ≤ 400000) (h : Q (.d (mpD (elM e))) st) : sp_element_map [.d (elD e)] st Q := by
  unfold sp_element_map
  cases e with
  | gap g => exact ⟨rfl, s_gap, s_gap, str_eq ⟨lineN rfl, tk h⟩⟩
  | lens p c =>
    refine ⟨rfl, s_lens, s_gap, str_ne ne_lg ?_⟩
    refine ⟨s_lens, s_lens, str_eq ?_⟩
    refine negative_ok ?_
    have z1 := he.1
    have z2 := he.2
    refine multiply_ok (zm (by omega)) ?_
    exact ⟨lineN rfl, tk h⟩
  | prism d =>
    refine ⟨rfl, s_prism, s_gap, str_ne ne_pg ?_⟩
    refine ⟨s_prism, s_lens, str_ne ne_pl ?_⟩
    exact ⟨s_prism, s_prism, str_eq ⟨lineN rfl, tk h⟩⟩
  | afocal m =>
    refine ⟨rfl, s_afocal, s_gap, str_ne ne_ag ?_⟩
    refine ⟨s_afocal, s_lens, str_ne ne_al ?_⟩
    refine ⟨s_afocal, s_prism, str_ne ne_ap ?_⟩
    refine ⟨s_afocal, s_afocal, str_eq ?_⟩
    have z1 := he.1
    have o1 : zb 1 ≤ 2 := by decide
    refine divide_ok (x := 1) he.2 (zm (by omega)) ?_
    exact ⟨lineN rfl, tk h⟩
  | stop lo hi =>
    refine ⟨rfl, s_stop, s_gap, str_ne ne_sg ?_⟩
    refine ⟨s_stop, s_lens, str_ne ne_sl ?_⟩
    refine ⟨s_stop, s_prism, str_ne ne_sp ?_⟩
    exact ⟨s_stop, s_afocal, str_ne ne_sa (tk h)⟩
end
end PG

set_option maxRecDepth 100000
set_option maxHeartbeats 4000000
namespace PG
open PySem PySem.Spec PyProof.Rows L2 RT
section
variable {x y : Rat} {st : List Cell} {Q : Vl → List Cell → Prop}
end
end PG

set_option maxRecDepth 100000
set_option maxHeartbeats 4000000
namespace PG
open PySem PySem.Spec PyProof.Rows L2 RT
def Dn (D : Nat) (q : Rat) : Prop := ∃ n : Int, q * (D : Rat) = (n : Rat)
theorem In.dn {D B : Nat} {q : Rat} : In D B q → Dn D q := fun ⟨n, h, _⟩ => ⟨n, h⟩
theorem filt_go {α : Type} {f : α → Dt} {p : α → Bool} {sl slw : List (Option Vl)} {i : Nat} {tt : DT} {all : List Dt} {st : List Cell} {K : List Dt → M → Prop} (hi : i < slw.length)
    (ht : ∀ (a : α) (P : Bool → M → Prop), P (p a) ⟨slw.set i (some (.d (f a))), st⟩ → tt ⟨slw.set i (some (.d (f a))), st⟩ P) :
    ∀ (xs acc : List α), acc.length + xs.length ≤ 100000 → K ((acc ++ xs.filter p).map f) ⟨sl, st⟩ → dLcGo sl slw (.nm i) tt (dVar i) all none K (xs.map f) (acc.map f) st
  | [], acc, _, h => ⟨trivial, by rw [List.filter_nil, List.append_nil] at h; exact h⟩
  | x :: xs, acc, hl, h => by
    rw [List.length_cons] at hl
    refine ⟨trivial, ht x _ ?_⟩
    have hv : (slw.set i (some (.d (f x))))[i]? = some (some (.d (f x))) := by simp [hi]
    cases hp : p x with
    | true =>
      rw [if_pos rfl]
      unfold dVar
      simp only [hv]
      refine ⟨by rw [List.length_map]; exact small_lt (by omega), ?_⟩
      have := filt_go (all := all) (K := K) hi ht xs (acc ++ [x]) (by rw [List.length_append, List.length_singleton]; omega) (by rw [List.append_assoc]; rw [List.filter_cons, if_pos hp] at h; exact h)
      rw [List.map_append] at this
      exact this
    | false =>
      exact filt_go (K := K) hi ht xs acc (by omega) (by rw [List.filter_cons, if_neg (by rw [hp]; decide)] at h; exact h)
section
variable {st : List Cell} {Q : Vl → List Cell → Prop}
theorem eqD_fr {x y : Rat} : eqD (fr x) (fr y) = decide (x = y) := by
  rw [Bool.eq_iff_iff, eqD_iff (nb_fr x) (nb_fr y), fr_inj, decide_eq_true_iff]
end
end PG

set_option maxRecDepth 100000
set_option maxHeartbeats 4000000
namespace PG
open PySem PySem.Spec PyProof.Rows L2 RT
def s3 : Rat := Rat.divInt (-2) 3
structure Dist (A : Mp) (q : Rat) : Prop where
  z : zb q ≤ 300
  den : q.den ≤ 2 ^ 90
  good : A.c * q + A.d = 0 ∨ Pn q
section
variable {A : Mp} {q h0 s : Rat}
theorem mul_lt {a b c d n : Nat} (h1 : a ≤ c) (h2 : b ≤ d) (h : c * d < n) : a * b < n := Nat.lt_of_le_of_lt (Nat.mul_le_mul h1 h2) h
end
end PG

set_option maxRecDepth 100000
set_option maxHeartbeats 4000000
namespace PG
open PySem PySem.Spec PyProof.Rows L2 RT
end PG

set_option maxRecDepth 100000
set_option maxHeartbeats 4000000
namespace PG
open PySem PySem.Spec PyProof.Rows L2 RT
section
variable {x y : Rat} {st : List Cell} {Q : Vl → List Cell → Prop}
theorem lfrac_ok {n d : Int} (hd : d ≠ 0) (h : Q (.d (fr (Rat.divInt n d))) st) : sp__law_frac [.d (.int n), .d (.int d)] st Q := by
  unfold sp__law_frac
  have hg : (Int.gcd n d : Int) ≠ 0 := by
    have : Int.gcd n d ≠ 0 := fun e => hd (Int.gcd_eq_zero_iff.mp e).2
    omega
  have hn : (Int.gcd n d : Int) ∣ n := Int.gcd_dvd_left ..
  have hd' : (Int.gcd n d : Int) ∣ d := Int.gcd_dvd_right ..
  have e1 : (Rat.divInt n d).num = d.sign * n / Int.gcd n d := by rw [Rat.num_divInt, Int.gcd_comm]
  have e2 : (((Rat.divInt n d).den : Nat) : Int) = d.sign * d / Int.gcd n d := by
    rw [Rat.den_divInt, if_neg hd, Int.natCast_ediv, Int.gcd_comm, sign_self]
  have fin : ∀ s : Int, (s = 1 ∨ s = -1) → s = d.sign → s * (Int.gcd n d : Int) ≠ 0 ∧ s * (Int.gcd n d : Int) ≠ 0 ∧ Q (.d (.tup [.int (n.fdiv (s * Int.gcd n d)), .int (d.fdiv (s * Int.gcd n d))])) st := fun s hs e => by
    refine ⟨by rcases hs with rfl | rfl <;> omega, by rcases hs with rfl | rfl <;> omega, ?_⟩
    rw [sgn_div hg hn hs, sgn_div hg hd' hs, e, ← e1, ← e2]
    exact h
  refine ⟨rfl, ?_⟩
  refine seq_to ⟨[some (.d (.int n)), some (.d (.int d)), some (.d (.int n.natAbs)), none], st⟩ (fun K hK => by rw [← abs_eq n] at hK; exact hK) ?_
  refine seq_to ⟨[some (.d (.int n)), some (.d (.int d)), some (.d (.int n.natAbs)), some (.d (.int d.natAbs))], st⟩ (fun K hK => by rw [← abs_eq d] at hK; exact hK) ?_
  refine seq_to ⟨[some (.d (.int n)), some (.d (.int d)), some (.d (.int (Int.gcd n d : Int))), some (.d (.int 0))], st⟩ (fun K hK => ?_) ?_
  · refine ⟨fun k m => ∃ x y : Nat, m = ⟨[some (.d (.int n)), some (.d (.int d)), some (.d (.int x)), some (.d (.int y))], st⟩ ∧ k = y ∧ Nat.gcd x y = Int.gcd n d, ⟨d.natAbs, n.natAbs, d.natAbs, rfl, rfl, rfl⟩, ?_⟩
    rintro y m ⟨x, _, rfl, rfl, hgc⟩
    refine ⟨trivial, ?_⟩
    show if (decide ((0 : Int) < y)) = true then _ else _
    by_cases hy : (0 : Int) < y
    · rw [if_pos (decide_eq_true hy)]
      refine ⟨by omega, ?_⟩
      refine ⟨x % y, Nat.mod_lt _ (by omega), y, x % y, ?_, rfl, ?_⟩
      · rw [Int.natCast_emod, ← Int.fmod_eq_emod_of_nonneg _ (by omega)]
        rfl
      · rw [← hgc, Nat.gcd_comm x y, Nat.gcd_rec y x, Nat.gcd_comm]
    · rw [if_neg (by simp; omega)]
      have e : y = 0 := by omega
      subst e
      rw [Nat.gcd_zero_right] at hgc
      rw [← hgc] at hK
      exact hK
  refine ⟨trivial, ?_⟩
  show if (decide (d < 0)) = true then _ else _
  by_cases hs : d < 0
  · rw [if_pos (decide_eq_true hs)]
    obtain ⟨a, b, c⟩ := fin (-1) (.inr rfl) (Int.sign_eq_neg_one_of_neg hs).symm
    rw [Int.neg_one_mul] at a b c
    exact ⟨a, b, lineN rfl, tk c⟩
  · rw [if_neg (by simp; omega)]
    obtain ⟨a, b, c⟩ := fin 1 (.inl rfl) (Int.sign_eq_one_of_pos (by omega)).symm
    rw [Int.one_mul] at a b c
    exact ⟨a, b, lineN rfl, tk c⟩
theorem ladd2_ok (hz : zb x + zb y < ZM) (h : Q (.d (fr (x + y))) st) : sp__law_add_2 [.d (fr x), .d (fr y)] st Q := by
  unfold sp__law_add_2
  refine ⟨rfl, mk_nn (zb_num x) (dn y) hz, mk_nn (zb_num y) (dn x) (by omega), mk_nn (dn x) (dn y) hz, ?_⟩
  refine lfrac_ok (mul_nn x y) (tk ?_)
  rw [← add_val]
  exact h
theorem lneg_ok (h : Q (.d (fr (-x))) st) : sp__law_neg [.d (fr x)] st Q := by
  unfold sp__law_neg
  refine ⟨rfl, lineN rfl, tk ?_⟩
  have e : fr (-x) = .tup [.int (-x.num), .int x.den] := by
    unfold fr
    rw [Rat.neg_num, Rat.neg_den]
  rw [e] at h
  exact h
theorem lsub2_ok (hz : zb x + zb y < ZM) (h : Q (.d (fr (x - y))) st) : sp__law_sub_2 [.d (fr x), .d (fr y)] st Q := by
  unfold sp__law_sub_2
  refine ⟨rfl, lneg_ok ?_⟩
  refine ladd2_ok (by rw [zb_neg]; exact hz) (tk ?_)
  rw [← Rat.sub_eq_add_neg]
  exact h
theorem lmul2_ok (hz : zb x + zb y < ZM) (h : Q (.d (fr (x * y))) st) : sp__law_mul_2 [.d (fr x), .d (fr y)] st Q := by
  unfold sp__law_mul_2
  refine ⟨rfl, mk_nn (zb_num x) (zb_num y) hz, mk_nn (dn x) (dn y) hz, ?_⟩
  refine lfrac_ok (mul_nn x y) (tk ?_)
  rw [← mul_val]
  exact h
theorem ldiv_ok (hy : y ≠ 0) (hz : zb x + zb y < ZM) (h : Q (.d (fr (x / y))) st) : sp__law_div [.d (fr x), .d (fr y)] st Q := by
  unfold sp__law_div
  refine ⟨rfl, mk_nn (zb_num x) (dn y) hz, mk_nn (dn x) (zb_num y) hz, ?_⟩
  refine lfrac_ok (Int.mul_ne_zero (den_pos x) (num_nz hy)) (tk ?_)
  rw [← div_val x hy]
  exact h
theorem same_ok {d : Dt} (hs : shows d) (h : Q (.d (.bl true)) st) : sp__law_same [.d d, .d d] st Q := by
  unfold sp__law_same
  refine ⟨rfl, hs, hs, tk ?_⟩
  have e : decide (reprD d = reprD d) = true := decide_eq_true rfl
  rw [e]
  exact h
end
end PG

set_option maxRecDepth 100000
set_option maxHeartbeats 4000000
namespace PG
open PySem PySem.Spec PyProof.Rows L2 RT
theorem draw2_ok {ds : List Int} {i k : Nat} {n : Int} {st : List Cell} {Q : Vl → List Cell → Prop} (hk : st[k]? = some (Bx ds i)) (hn : 0 < n) (hi3 : i < 1000000) (h : ∀ r : Int, 0 ≤ r → r < n → Q (.d (.int r)) (st.set k (Bx ds (i + 1)))) :
    sp__law_draw_2 [.c k, .d (.int n)] st Q := by
  have hlt : k < st.length := (List.getElem?_eq_some_iff.mp hk).1
  have hs : (st.set k (Bx ds (i + 1)))[k]? = some (Bx ds (i + 1)) := by simp [hlt]
  have hl : (st.set k (Bx ds (i + 1))).length = st.length := List.length_set
  unfold sp__law_draw_2
  refine ⟨rfl, ?_⟩
  refine onV_c hk ?_
  refine onC_mk hk ?_
  refine onJ_mk (j := 1) rfl ?_
  have e0 : ([Dt.lst (ds.map .int), Dt.int i].set 1 (Dt.int (i + 1))) = [Dt.lst (ds.map .int), Dt.int ((i + 1 : Nat) : Int)] := rfl
  dsimp only
  rw [e0]
  change dSeq (dIfS _ _ _) _ _ ⟨_, st.set k (Bx ds (i + 1))⟩
  refine onV_c hs ?_
  refine onV_d (rIx_mk (z := Dt.lst (ds.map .int)) rfl ?_)
  refine ⟨trivial, ?_⟩
  show if (decide ((i : Int) < ((ds.map Dt.int).length : Int))) = true then _ else _
  rw [List.length_map]
  by_cases hi : (i : Int) < (ds.length : Int)
  · rw [if_pos (decide_eq_true hi)]
    refine onV_c hs ?_
    refine onV_d (rIx_mk (z := Dt.lst (ds.map .int)) rfl ?_)
    refine ix_ints (ns := ds) (k := (i : Int)) (by omega) (by omega) ?_
    refine ⟨by show n ≠ 0; omega, ?_⟩
    obtain ⟨b0, b1⟩ := fmod_bd (ds.getD (i : Int).toNat 0) hn
    have := h _ b0 b1
    rw [← hl]
    exact tk this
  · rw [if_neg (by simp; omega)]
    have li := log2_small (v := (i : Int)) (n := 20) (by omega) (by omega) (by decide)
    refine ⟨mulok (by rw [show (7 : Int).natAbs.log2 = 2 by decide]; unfold ZM; omega), ?_⟩
    refine ⟨by show n ≠ 0; omega, ?_⟩
    obtain ⟨b0, b1⟩ := fmod_bd ((i : Int) * 7 + 3) hn
    have := h _ b0 b1
    rw [← hl]
    exact tk this
end PG

set_option maxRecDepth 100000
set_option maxHeartbeats 4000000
namespace PG
open PySem PySem.Spec PyProof.Rows L2 RT
theorem row_ok {v k : Int} {st : List Cell} {Q : Vl → List Cell → Prop} (hv : v.natAbs.log2 ≤ 1048576) (hk0 : 0 ≤ k) (hk1 : k ≤ 100) (h : ∀ ds : List Int, Dg ds → ds.length ≤ 60 → Q (.d (.lst (ds.map .int))) st) :
    sp__law_row [.d (.int v), .d (.int k), .d (.int 12)] st Q := by
  unfold sp__law_row
  refine ⟨rfl, lineN rfl, ?_⟩
  dsimp only
  let S : Int → List Int → Option Vl → Option Vl → M := fun v ds z4 z5 => ⟨[some (.d (.int v)), some (.d (.int k)), some (.d (.int 12)), some (.c st.length), z4, z5], st ++ [.lst (ds.map .int)]⟩
  have ret : ∀ (v : Int) (ds : List Int) (z4 z5 : Option Vl), Dg ds → ds.length ≤ 60 → dRet (dVar 3) (endsOf false st.length Q) (S v ds z4 z5) := fun v ds z4 z5 hd hl => by
    show if st.length < st.length then _ else onC (st ++ [Cell.lst (ds.map Dt.int)]) st.length _
    rw [if_neg (Nat.lt_irrefl _)]
    refine onC_mk (getElem_last _ _) ?_
    rw [if_neg (by decide)]
    show Q (.d (.lst (ds.map .int))) ((st ++ [Cell.lst (ds.map Dt.int)]).take st.length)
    rw [List.take_left]
    exact h ds hd hl
  refine seq_mid (fun m' => ∃ v : Int, m' = S v [] none none ∧ 0 ≤ v ∧ v.natAbs.log2 ≤ 1048580) (fun K' hK' => ?_) ?_
  · refine ⟨trivial, ?_⟩
    show if (decide (v < 0)) = true then _ else _
    by_cases hv0 : v < 0
    · rw [if_pos (decide_eq_true hv0)]
      refine ⟨?_, trivial, hK' _ ⟨1 - 2 * v, rfl, by omega, ?_⟩⟩
      · show (2 : Int).natAbs.log2 + v.natAbs.log2 < 67108864
        have : (2 : Int).natAbs.log2 = 1 := by decide
        omega
      · have e : (1 - 2 * v).natAbs = 1 + 2 * v.natAbs := by omega
        rw [e]
        have h1 := @log2_add_le 1 (2 * v.natAbs)
        have h2 := @log2_mul_le 2 v.natAbs
        have h3 : Nat.log2 2 = 1 := by decide
        have h4 : Nat.log2 1 = 0 := by decide
        omega
    · rw [if_neg (by simp; omega)]
      exact hK' _ ⟨v, rfl, by omega, by omega⟩
  rintro _ ⟨v, rfl, hv0, hvb⟩
  refine ⟨⟨by decide, by decide, by decide⟩, trivial, ?_⟩
  show if (decide ((10 : Int) ^ 18 ≤ v)) = true then _ else _
  by_cases hbig : (10 : Int) ^ 18 ≤ v
  · rw [if_pos (decide_eq_true hbig)]
    refine ⟨⟨by decide, by decide⟩, ?_⟩
    refine range_inv (fun j l m => ∃ (ds' : List Int) (v : Int) (z : Option Vl), m = S v ds' z none ∧ Dg ds' ∧ ds'.length + j ≤ 60) ?_ ?_ 60 0 _ ⟨[], v, none, rfl, (show Dg [] from fun d hd => nomatch hd), Nat.le_refl _⟩
    · rintro j l m K2 hK2 ⟨ds', v, z, rfl, hd', hl2⟩
      refine ⟨trivial, ?_⟩
      show if (decide ((0 : Int) < v)) = true then _ else _
      by_cases hvp : (0 : Int) < v
      · rw [if_pos (decide_eq_true hvp)]
        refine onV_c (getElem_last _ _) ?_
        refine ⟨trivial, ?_⟩
        show if (decide (((ds'.map Dt.int).length : Int) < 12)) = true then _ else _
        by_cases h12 : ((ds'.map Dt.int).length : Int) < 12
        · rw [if_pos (decide_eq_true h12)]
          refine ⟨⟨_, getElem_last _ _⟩, k1000, onC_mk (getElem_last _ _) ⟨small_lt (by rw [List.length_map]; omega), k1000, ?_⟩⟩
          obtain ⟨b0, b1⟩ := fmod_bd v (n := 1000) (by decide)
          refine hK2 _ ⟨ds' ++ [v.fmod 1000], v.fdiv 1000, some (.d (.int l)), ?_, hd'.app b0 b1, by rw [List.length_append, List.length_singleton]; omega⟩
          exact congrArg (M.mk _) push_st
        · rw [if_neg (by simpa using h12)]
          exact hK2 _ ⟨ds', v, some (.d (.int l)), rfl, hd', by omega⟩
      · rw [if_neg (by simp; omega)]
        exact hK2 _ ⟨ds', v, some (.d (.int l)), rfl, hd', by omega⟩
    · rintro l m ⟨ds', v, z, rfl, hd', hl2⟩
      exact ret v ds' z none hd' (by omega)
  · rw [if_neg (by simp; omega)]
    have hv18 : v < 2 ^ 60 := by
      have : (10 : Int) ^ 18 < 2 ^ 60 := by decide
      omega
    have lv := log2_small hv0 hv18 (by decide)
    have llo := log2_small (v := k) (n := 7) hk0 (by omega) (by decide)
    refine ⟨?_, ?_, kMx, ?_⟩
    · show v.natAbs.log2 + (48271 : Int).natAbs.log2 < 67108864
      have : (48271 : Int).natAbs.log2 = 15 := by decide
      omega
    · show k.natAbs.log2 + (69621 : Int).natAbs.log2 < 67108864
      have : (69621 : Int).natAbs.log2 = 16 := by decide
      omega
    refine ⟨⟨by decide, by decide⟩, ?_⟩
    obtain ⟨s0, s1⟩ := fmod_bd (v * 48271 + k * 69621 + 11) (n := 2147483647) (by decide)
    refine range_inv (fun j l m => ∃ (ds' : List Int) (sd : Int) (z : Option Vl), m = S v ds' z (some (.d (.int sd))) ∧ Dg ds' ∧ ds'.length + j ≤ 12 ∧ 0 ≤ sd ∧ sd < 2147483647 ∧ 0 ≤ l ∧ l + j = 12) ?_ ?_ 12 0 _ ⟨[], _, none, rfl, (show Dg [] from fun d hd => nomatch hd), Nat.le_refl _, s0, s1, by decide, by decide⟩
    · rintro j l m K2 hK2 ⟨ds', sd, z, rfl, hd', hl2, c0, c1, l0, l1⟩
      have lsd := log2_small (n := 31) c0 (by omega) (by decide)
      have ll := log2_small (v := l) (n := 4) l0 (by omega) (by decide)
      refine ⟨?_, ?_, kMx, ?_⟩
      · show sd.natAbs.log2 + (16807 : Int).natAbs.log2 < 67108864
        have : (16807 : Int).natAbs.log2 = 14 := by decide
        omega
      · show (7 : Int).natAbs.log2 + l.natAbs.log2 < 67108864
        have : (7 : Int).natAbs.log2 = 2 := by decide
        omega
      obtain ⟨t0, t1⟩ := fmod_bd (sd * 16807 + 7 * l + 1) (n := 2147483647) (by decide)
      refine ⟨⟨_, getElem_last _ _⟩, k997, k1000, onC_mk (getElem_last _ _) ⟨small_lt (by rw [List.length_map]; omega), ?_⟩⟩
      obtain ⟨b0, b1⟩ := fmod_bd (((sd * 16807 + 7 * l + 1).fmod 2147483647).fdiv 997) (n := 1000) (by decide)
      refine hK2 _ ⟨ds' ++ [(((sd * 16807 + 7 * l + 1).fmod 2147483647).fdiv 997).fmod 1000], _, some (.d (.int l)), ?_, hd'.app b0 b1, by rw [List.length_append, List.length_singleton]; omega, t0, t1, by omega, by omega⟩
      exact congrArg (M.mk _) push_st
    · rintro l m ⟨ds', sd, z, rfl, hd', hl2, _⟩
      exact ret v ds' z _ hd' (by omega)
theorem box_ok {ns : List Int} {b : Int} {st : List Cell} {Q : Vl → List Cell → Prop} (hb : Bits ns) (h0 : 0 ≤ b) (h2 : b ≤ 100) (h : ∀ ds : List Int, Dg ds → ds.length ≤ 6000 → Q (.c st.length) (st ++ [Bx ds 0])) :
    sp__law_box [.d (.lst (ns.map .int)), .d (.int 0), .d (.int b)] st Q := by
  unfold sp__law_box
  refine ⟨rfl, lineN rfl, ?_⟩
  refine ⟨⟨⟨by decide, by decide⟩, ⟨by omega, by omega⟩⟩, ?_⟩
  refine range_inv (fun n lo m => ∃ (ds : List Int) (z : Option Vl), m = ⟨[some (.d (.lst (ns.map .int))), some (.d (.int 0)), some (.d (.int b)), some (.d (.lst (ds.map .int))), z], st⟩ ∧ Dg ds ∧ 0 ≤ lo ∧ lo + n = b ∧ ds.length ≤ 60 * lo.toNat) ?_ ?_ (b - 0).toNat 0 _ ⟨[], none, rfl, (show Dg [] from fun d hd => nomatch hd), Int.le_refl _, by omega, Nat.zero_le _⟩
  · rintro n lo m K hK ⟨ds, z, rfl, hd, hlo, hn, hl⟩
    refine cell_ok hb (by omega) fun v hv => ?_
    refine row_ok hv hlo (by omega) fun ds2 hd2 hl2 => ?_
    refine ⟨?_, ?_⟩
    · rw [List.length_map, List.length_map]
      exact Nat.le_of_lt (small_lt (by omega))
    · refine hK _ ⟨ds ++ ds2, some (.d (.int lo)), ?_, fun d hx => (List.mem_append.mp hx).elim (hd d) (hd2 d), by omega, by omega, by rw [List.length_append]; omega⟩
      rw [List.map_append]
      rfl
  · rintro lo m ⟨ds, z, rfl, hd, hlo, hn, hl⟩
    refine ⟨lineN rfl, ?_⟩
    show if st.length < st.length then _ else onC (st ++ [Bx ds 0]) st.length _
    rw [if_neg (Nat.lt_irrefl _)]
    refine onC_mk (getElem_last _ _) ?_
    rw [if_pos rfl]
    show Q (.c st.length) ((st ++ [Bx ds 0]).take st.length ++ [Bx ds 0])
    rw [List.take_left]
    exact h ds hd (by omega)
end PG

set_option maxRecDepth 100000
set_option maxHeartbeats 4000000
namespace PG
open PySem PySem.Spec PyProof.Rows L2 RT
theorem slt {n : Nat} (h : Nat.ble n 1000 = true) : n < sizeLine := small_lt (Nat.lt_of_le_of_lt (Nat.le_of_ble_eq_true h) (by decide))
theorem gx_any {α : Type} (f : α → Dt) (p : α → Bool) {sl slw : List (Option Vl)} {g : Tgt} {te : DE} {all : List Dt} {K : Bool → M → Prop} {st : List Cell} :
    ∀ {xs : List α}, (∀ x ∈ xs, ∀ (C : Vl → M → Prop), (∀ sl', C (.d (.bl (p x))) ⟨sl', st⟩) → tgD g (.d (f x)) ⟨slw, st⟩ fun m1 => te m1 C) → K (xs.any p) ⟨sl, st⟩ → dGxGo false sl slw g te all none K (xs.map f) st
  | [], _, h => ⟨trivial, h⟩
  | x :: r, hs, h => ⟨trivial, hs x List.mem_cons_self _ fun sl' => by
    show if p x = false then _ else _
    rw [List.any_cons] at h
    cases hp : p x with
    | false =>
      rw [hp, Bool.false_or] at h
      rw [if_pos rfl]
      exact gx_any f p (fun y hy => hs y (List.mem_cons_of_mem _ hy)) h
    | true =>
      rw [hp, Bool.true_or] at h
      rw [if_neg (by decide)]
      exact h⟩

structure Hp3 where
  p : Int
  q : Int
  r : Int
  deriving DecidableEq
def hpD (h : Hp3) : Dt := .tup [.int h.p, .int h.q, .int h.r]
def HZ (n : Nat) (h : Hp3) : Prop := h.p.natAbs.log2 + 2 ≤ n ∧ h.q.natAbs.log2 + 2 ≤ n ∧ h.r.natAbs.log2 + 2 ≤ n
def valH (h : Hp3) (x : Ray) : Rat := (h.p : Rat) * x.1 + (h.q : Rat) * x.2
def hasH (x : Ray) (h : Hp3) : Bool := decide (valH h x ≤ (h.r : Rat))
theorem divInt_one (n : Int) : Rat.divInt n 1 = (n : Rat) := by
  rw [Rat.divInt_eq_div]
  show (n : Rat) / ((1 : Int) : Rat) = (n : Rat)
  rw [Rat.intCast_one]
  grind
theorem zb_int (n : Int) : zb (n : Rat) ≤ n.natAbs.log2 + 2 := by
  unfold zb
  rw [Rat.num_intCast, Rat.den_intCast]
  have : Nat.log2 1 = 0 := by decide
  omega
section
variable {st : List Cell} {Q : Vl → List Cell → Prop}
theorem frac1_ok {n : Int} (h : Q (.d (fr (n : Rat))) st) : sp_fraction [.d (.int n), .d (.int 1)] st Q := by
  refine fraction_ok (by decide) ?_
  rw [divInt_one]
  exact h
end

def mkX (p q r : Rat) : Int := p.num * (q.den * r.den)
def mkY (p q r : Rat) : Int := q.num * (p.den * r.den)
def mkZ (p q r : Rat) : Int := r.num * (p.den * q.den)
def mkG (p q r : Rat) : Int := (Int.gcd (Int.gcd (mkX p q r) (mkY p q r) : Int) (mkZ p q r) : Int)
def mkH (p q r : Rat) : Hp3 := ⟨mkX p q r / mkG p q r, mkY p q r / mkG p q r, mkZ p q r / mkG p q r⟩
theorem den_pos' (x : Rat) : (0 : Int) < (x.den : Int) := by
  have := x.den_pos
  omega
theorem denR_pos (x : Rat) : (0 : Rat) < (x.den : Rat) := by
  have := x.den_pos
  exact Rat.natCast_pos.mpr this
theorem num_den (x : Rat) : (x.num : Rat) = x * (x.den : Rat) := by
  have h := denR_pos x
  have e : x = (x.num : Rat) / (x.den : Rat) := by
    conv => lhs; rw [← Rat.num_divInt_den x]
    rw [Rat.divInt_eq_div, Rat.intCast_natCast]
  generalize (x.num : Rat) = a at *
  generalize (x.den : Rat) = b at *
  grind
section
variable {p q r : Rat}
theorem mkG_pos (h : ¬ (p = 0 ∧ q = 0)) : 0 < mkG p q r := by
  unfold mkG
  have : Int.gcd (Int.gcd (mkX p q r) (mkY p q r) : Int) (mkZ p q r) ≠ 0 := fun e => by
    have e1 := (Int.gcd_eq_zero_iff.mp e).1
    have e2 : Int.gcd (mkX p q r) (mkY p q r) = 0 := by omega
    obtain ⟨e3, e4⟩ := Int.gcd_eq_zero_iff.mp e2
    have dp := den_pos' p
    have dq := den_pos' q
    have dr := den_pos' r
    have n1 : (q.den : Int) * r.den ≠ 0 := Int.mul_ne_zero (by omega) (by omega)
    have n2 : (p.den : Int) * r.den ≠ 0 := Int.mul_ne_zero (by omega) (by omega)
    refine h ⟨Rat.num_eq_zero.mp ?_, Rat.num_eq_zero.mp ?_⟩
    · rcases Int.mul_eq_zero.mp e3 with z | z
      · exact z
      · exact (n1 z).elim
    · rcases Int.mul_eq_zero.mp e4 with z | z
      · exact z
      · exact (n2 z).elim
  omega
theorem mk_dvd : mkG p q r ∣ mkX p q r ∧ mkG p q r ∣ mkY p q r ∧ mkG p q r ∣ mkZ p q r := by
  unfold mkG
  have h1 : (Int.gcd (Int.gcd (mkX p q r) (mkY p q r) : Int) (mkZ p q r) : Int) ∣ (Int.gcd (mkX p q r) (mkY p q r) : Int) := Int.gcd_dvd_left ..
  exact ⟨Int.dvd_trans h1 (Int.gcd_dvd_left ..), Int.dvd_trans h1 (Int.gcd_dvd_right ..), Int.gcd_dvd_right ..⟩
theorem ediv_cast {a g : Int} (hg : g ≠ 0) (h : g ∣ a) : ((a / g : Int) : Rat) * (g : Rat) = (a : Rat) := by
  obtain ⟨k, rfl⟩ := h
  rw [Int.mul_ediv_cancel_left _ hg, Rat.intCast_mul]
  grind
theorem mkH_spec (h : ¬ (p = 0 ∧ q = 0)) : ∃ t : Rat, 0 < t ∧ ((mkH p q r).p : Rat) = t * p ∧ ((mkH p q r).q : Rat) = t * q ∧ ((mkH p q r).r : Rat) = t * r := by
  have hg := mkG_pos (r := r) h
  obtain ⟨d1, d2, d3⟩ := mk_dvd (p := p) (q := q) (r := r)
  have hgn : mkG p q r ≠ 0 := by omega
  have c1 := ediv_cast hgn d1
  have c2 := ediv_cast hgn d2
  have c3 := ediv_cast hgn d3
  have hgr : (0 : Rat) < (mkG p q r : Rat) := Rat.intCast_pos.mpr hg
  have dp := denR_pos p
  have dq := denR_pos q
  have dr := denR_pos r
  have x1 : (mkX p q r : Rat) = p * (p.den : Rat) * ((q.den : Rat) * (r.den : Rat)) := by
    unfold mkX
    rw [Rat.intCast_mul, Rat.intCast_mul, num_den p]
    simp only [Rat.intCast_natCast]
  have x2 : (mkY p q r : Rat) = q * (q.den : Rat) * ((p.den : Rat) * (r.den : Rat)) := by
    unfold mkY
    rw [Rat.intCast_mul, Rat.intCast_mul, num_den q]
    simp only [Rat.intCast_natCast]
  have x3 : (mkZ p q r : Rat) = r * (r.den : Rat) * ((p.den : Rat) * (q.den : Rat)) := by
    unfold mkZ
    rw [Rat.intCast_mul, Rat.intCast_mul, num_den r]
    simp only [Rat.intCast_natCast]
  have hs : (0 : Rat) < (p.den : Rat) * (q.den : Rat) * (r.den : Rat) := Rat.mul_pos (Rat.mul_pos dp dq) dr
  refine ⟨(p.den : Rat) * (q.den : Rat) * (r.den : Rat) / (mkG p q r : Rat), ?_, ?_, ?_, ?_⟩
  · rw [Rat.div_def]
    exact Rat.mul_pos hs (Rat.inv_pos.mpr hgr)
  · show ((mkX p q r / mkG p q r : Int) : Rat) = _
    rw [x1] at c1
    generalize (mkG p q r : Rat) = g at *
    grind
  · show ((mkY p q r / mkG p q r : Int) : Rat) = _
    rw [x2] at c2
    generalize (mkG p q r : Rat) = g at *
    grind
  · show ((mkZ p q r / mkG p q r : Int) : Rat) = _
    rw [x3] at c3
    generalize (mkG p q r : Rat) = g at *
    grind
theorem lg3 {a : Int} {b c g : Nat} {s : Int} (h : s = (a * (b * c)) / g) : s.natAbs.log2 ≤ a.natAbs.log2 + b.log2 + c.log2 + 2 := by
  subst h
  have h1 : ((a * (b * c)) / (g : Int)).natAbs ≤ (a * (b * c)).natAbs := Int.natAbs_ediv_le_natAbs ..
  have h2 := log2_mono h1
  rw [Int.natAbs_mul, Int.natAbs_mul, Int.natAbs_natCast, Int.natAbs_natCast] at h2
  have h3 := @log2_mul_le a.natAbs (b * c)
  have h4 := @log2_mul_le b c
  omega
theorem mkH_z {n : Nat} (hn : zb p + zb q + zb r ≤ n) : HZ n (mkH p q r) := by
  have p1 := zb_num p
  have p2 := zb_den p
  have q1 := zb_num q
  have q2 := zb_den q
  have r1 := zb_num r
  have r2 := zb_den r
  refine ⟨?_, ?_, ?_⟩
  · have := lg3 (a := p.num) (b := q.den) (c := r.den) (g := Int.gcd (Int.gcd (mkX p q r) (mkY p q r) : Int) (mkZ p q r)) (s := (mkH p q r).p) rfl
    omega
  · have := lg3 (a := q.num) (b := p.den) (c := r.den) (g := Int.gcd (Int.gcd (mkX p q r) (mkY p q r) : Int) (mkZ p q r)) (s := (mkH p q r).q) rfl
    omega
  · have := lg3 (a := r.num) (b := p.den) (c := q.den) (g := Int.gcd (Int.gcd (mkX p q r) (mkY p q r) : Int) (mkZ p q r)) (s := (mkH p q r).r) rfl
    omega
theorem fdiv_pos {a g : Int} (hg : 0 < g) : a.fdiv g = a / g := by
  rw [Int.fdiv_eq_ediv_of_nonneg _ (by omega)]
theorem sh_fr' {q : Rat} : shD (fr q) := sh_ok sh_fr
theorem mkplane_ok {st : List Cell} {Q : Vl → List Cell → Prop} {n : Nat} (h0 : ¬ (p = 0 ∧ q = 0)) (hp : zb p ≤ n) (hq : zb q ≤ n) (hr : zb r ≤ n) (hn : n ≤ 1000000) (h : Q (.d (hpD (mkH p q r))) st) : sp_make_half_plane [.d (fr p), .d (fr q), .d (fr r)] st Q := by
  have p1 := zb_num p
  have p2 := zb_den p
  have q1 := zb_num q
  have q2 := zb_den q
  have r1 := zb_num r
  have r2 := zb_den r
  have dp := den_pos' p
  have dq := den_pos' q
  have dr := den_pos' r
  unfold sp_make_half_plane
  refine ⟨rfl, ?_⟩
  let S : Option Vl → Option Vl → Option Vl → M := fun z3 z4 z5 => ⟨[some (.d (fr p)), some (.d (fr q)), some (.d (fr r)), z3, z4, z5, none], st⟩
  refine guard_st (S none none none) (fun K hK => ?_) ?_
  · refine ⟨sh_fr', sh_fr' (q := 0), ?_⟩
    show if eqD (fr p) (fr 0) = true then _ else _
    rw [eqD_fr]
    by_cases c : p = 0
    · rw [if_pos (decide_eq_true c)]
      refine ⟨sh_fr', sh_fr' (q := 0), ?_⟩
      show K (eqD (fr q) (fr 0)) _
      rw [eqD_fr, decide_eq_false (fun e => h0 ⟨c, e⟩)]
      exact hK
    · rw [if_neg (by simpa using c)]
      exact hK
  have m1 := @log2_mul_le p.den q.den
  have m2 := @log2_mul_le q.den r.den
  have m3 := @log2_mul_le p.den r.den
  refine ⟨mulok (by rw [Int.natAbs_natCast, Int.natAbs_natCast]; exact zm (by omega)), mulok (by rw [Int.natAbs_mul, Int.natAbs_natCast, Int.natAbs_natCast, Int.natAbs_natCast]; exact zm (by omega)), ?_⟩
  have nS : (p.den : Int) * q.den * r.den ≠ 0 := Int.mul_ne_zero (Int.mul_ne_zero (by omega) (by omega)) (by omega)
  have f1 : ((p.den : Int) * q.den * r.den).fdiv p.den = q.den * r.den := by
    rw [Int.mul_assoc, Int.mul_fdiv_cancel_left _ (by omega)]
  have f2 : ((p.den : Int) * q.den * r.den).fdiv q.den = p.den * r.den := by
    rw [Int.mul_comm (p.den : Int), Int.mul_assoc, Int.mul_fdiv_cancel_left _ (by omega)]
  have f3 : ((p.den : Int) * q.den * r.den).fdiv r.den = p.den * q.den := by
    rw [Int.mul_fdiv_cancel _ (by omega)]
  dsimp only
  refine seq_to (S (some (.d (.int ((p.den : Int) * q.den * r.den)))) (some (.d (.lst [.int (mkX p q r), .int (mkY p q r), .int (mkZ p q r)]))) none) (fun K hK => ?_) ?_
  · refine ⟨lineN rfl, trivial, den_pos p, ?_⟩
    show MulOk p.num (((p.den : Int) * q.den * r.den).fdiv p.den) ∧ _
    refine ⟨by rw [f1]; exact mulok (by rw [Int.natAbs_mul, Int.natAbs_natCast, Int.natAbs_natCast]; exact zm (by omega)), slt rfl, trivial, den_pos q, ?_⟩
    refine ⟨by show MulOk q.num (((p.den : Int) * q.den * r.den).fdiv q.den); rw [f2]; exact mulok (by rw [Int.natAbs_mul, Int.natAbs_natCast, Int.natAbs_natCast]; exact zm (by omega)), slt rfl, trivial, den_pos r, ?_⟩
    refine ⟨by show MulOk r.num (((p.den : Int) * q.den * r.den).fdiv r.den); rw [f3]; exact mulok (by rw [Int.natAbs_mul, Int.natAbs_natCast, Int.natAbs_natCast]; exact zm (by omega)), slt rfl, trivial, ?_⟩
    have e1 : mkX p q r = p.num * (((p.den : Int) * q.den * r.den).fdiv p.den) := by rw [f1]; rfl
    have e2 : mkY p q r = q.num * (((p.den : Int) * q.den * r.den).fdiv q.den) := by rw [f2]; rfl
    have e3 : mkZ p q r = r.num * (((p.den : Int) * q.den * r.den).fdiv r.den) := by rw [f3]; rfl
    rw [e1, e2, e3] at hK
    exact hK
  have g0 := mkG_pos (r := r) h0
  refine gcd_ok ?_
  refine gcd_ok ?_
  show mkG p q r ≠ 0 ∧ mkG p q r ≠ 0 ∧ mkG p q r ≠ 0 ∧ _
  refine ⟨by omega, by omega, by omega, lineN rfl, tk ?_⟩
  show Q (.d (.tup [.int ((mkX p q r).fdiv (mkG p q r)), .int ((mkY p q r).fdiv (mkG p q r)), .int ((mkZ p q r).fdiv (mkG p q r))])) st
  rw [fdiv_pos g0, fdiv_pos g0, fdiv_pos g0]
  exact h
end
end PG

set_option maxRecDepth 100000
set_option maxHeartbeats 4000000
namespace PG
open PySem PySem.Spec PyProof.Rows L2 RT
abbrev Ed := Nat × Bool
def edD (e : Ed) : Dt := .tup [.int e.1, .str (if e.2 = true then ("upper" : Str) else ("lower" : Str))]
def ehD (x : Ed × Hp3) : Dt := .tup [edD x.1, hpD x.2]
def lowE (k : Nat) (lo : Option Rat) (m : Mp) : List (Ed × Hp3) := match lo with
  | none => []
  | some l => [((k, false), mkH (-m.a) (-m.b) (m.e - l))]
def uppE (k : Nat) (hi : Option Rat) (m : Mp) : List (Ed × Hp3) := match hi with
  | none => []
  | some u => [((k, true), mkH m.a m.b (u - m.e))]
section
variable {st : List Cell} {Q : Vl → List Cell → Prop}
theorem edges_ok {k : Nat} {lo hi : Option Rat} {m : Mp} {n : Nat} (h0 : ¬ (m.a = 0 ∧ m.b = 0)) (hm : MZ n m) (hl : Zo n lo) (hh : Zo n hi) (hn : n ≤ 300000) (h : Q (.d (.lst ((lowE k lo m ++ uppE k hi m).map ehD))) st) :
    sp_edges_of [.d (.int k), .d (elD (.stop lo hi)), .d (mpD m)] st Q := by
  obtain ⟨⟨za, zb', zc⟩, zd, ze, zf⟩ := hm
  unfold sp_edges_of
  refine ⟨rfl, ?_⟩
  let S : List Cell → M := fun c => ⟨[some (.d (.int k)), some (.d (elD (.stop lo hi))), some (.d (mpD m)), some (.d (fr m.a)), some (.d (fr m.b)), some (.d (fr m.c)), some (.d (fr m.d)), some (.d (fr m.e)), some (.d (fr m.f)), some (.c st.length)], c⟩
  refine seq_to ⟨[some (.d (.int k)), some (.d (elD (.stop lo hi))), some (.d (mpD m)), some (.d (fr m.a)), some (.d (fr m.b)), some (.d (fr m.c)), some (.d (fr m.d)), some (.d (fr m.e)), some (.d (fr m.f)), none], st⟩ (fun K hK => ⟨rfl, hK⟩) ?_
  refine seq_to (S (st ++ [Cell.lst []])) (fun K hK => ⟨lineN rfl, hK⟩) ?_
  refine seq_to (S (st ++ [Cell.lst ((lowE k lo m).map ehD)])) (fun K hK => ?_) ?_
  · cases lo with
    | none => exact hK
    | some l =>
      have w := zb_sub m.e l
      have hl' := hl l rfl
      refine ifs_t (S (st ++ [Cell.lst []])) (fun K2 h2 => h2) ?_
      refine ⟨⟨_, getElem_last _ _⟩, lineN rfl, ?_⟩
      refine negative_ok ?_
      refine negative_ok ?_
      refine subtract_ok (x := m.e) (y := l) (zm (by omega)) ?_
      refine mkplane_ok (n := 2 * n) (fun z => h0 ⟨by grind, by grind⟩) (by rw [zb_neg]; omega) (by rw [zb_neg]; omega) (by omega) (by omega) ?_
      refine ⟨lineN rfl, onC_mk (getElem_last _ _) ⟨slt rfl, ?_⟩⟩
      dsimp only
      rw [set_last]
      exact hK
  refine seq_to (S (st ++ [Cell.lst ((lowE k lo m ++ uppE k hi m).map ehD)])) (fun K hK => ?_) ?_
  · cases hi with
    | none =>
      rw [show lowE k lo m ++ uppE k none m = lowE k lo m from List.append_nil _] at hK
      exact hK
    | some l =>
      have w := zb_sub l m.e
      have hl' := hh l rfl
      refine ifs_t (S (st ++ [Cell.lst ((lowE k lo m).map ehD)])) (fun K2 h2 => h2) ?_
      refine ⟨⟨_, getElem_last _ _⟩, lineN rfl, ?_⟩
      refine subtract_ok (x := l) (y := m.e) (zm (by omega)) ?_
      refine mkplane_ok (n := 2 * n) h0 (by omega) (by omega) (by omega) (by omega) ?_
      refine ⟨lineN rfl, onC_mk (getElem_last _ _) ⟨by cases lo <;> exact slt rfl, ?_⟩⟩
      dsimp only
      rw [set_last]
      rw [List.map_append] at hK
      exact hK
  refine Eq.mp (if_neg (Nat.lt_irrefl _)).symm (onC_mk (getElem_last _ _) ?_)
  show Q _ ((st ++ [_]).take st.length)
  rw [List.take_left]
  exact h
def edgesAt (k : Nat) (e : El) (m : Mp) : List (Ed × Hp3) := match e with
  | .stop lo hi => lowE k lo m ++ uppE k hi m
  | _ => []
def planesOf : Nat → Mp → List El → List (Ed × Hp3)
  | _, _, [] => []
  | k, m, e :: es => edgesAt k e m ++ planesOf (k + 1) (comp m (elM e)) es
theorem edgesAt_len (k : Nat) (e : El) (m : Mp) : (edgesAt k e m).length ≤ 2 := by
  cases e with
  | stop lo hi =>
    show (lowE k lo m ++ uppE k hi m).length ≤ 2
    rw [List.length_append]
    cases lo <;> cases hi <;> exact Nat.le_of_ble_eq_true rfl
  | _ => exact Nat.zero_le _
theorem nz_of_det {m : Mp} (h : det m = 1) : ¬ (m.a = 0 ∧ m.b = 0) := fun ⟨h1, h2⟩ => by
  unfold det at h
  rw [h1, h2] at h
  grind
end

theorem mkH_has {p q r : Rat} (h : ¬ (p = 0 ∧ q = 0)) (x : Ray) : hasH x (mkH p q r) = decide (p * x.1 + q * x.2 ≤ r) := by
  obtain ⟨t, ht, h1, h2, h3⟩ := mkH_spec (r := r) h
  unfold hasH valH
  rw [h1, h2, h3]
  refine decide_eq_decide.mpr ?_
  have e : t * p * x.1 + t * q * x.2 = t * (p * x.1 + q * x.2) := by grind
  rw [e]
  generalize p * x.1 + q * x.2 = v
  constructor
  · intro h
    exact Rat.le_of_mul_le_mul_left h ht
  · intro h
    exact Rat.mul_le_mul_of_nonneg_left h (Rat.le_of_lt ht)
end PG

set_option maxRecDepth 100000
set_option maxHeartbeats 4000000
namespace PG
open PySem PySem.Spec PyProof.Rows L2 RT
theorem lc_map {α : Type} (f h : α → Dt) {sl slw : List (Option Vl)} {g : Tgt} {te : DE} {all : List Dt} {K : List Dt → M → Prop} {st : List Cell} :
    ∀ {xs done : List α}, (∀ x ∈ xs, ∀ (C : Vl → M → Prop), (∀ sl', C (.d (h x)) ⟨sl', st⟩) → tgD g (.d (f x)) ⟨slw, st⟩ fun m1 => te m1 C) → done.length + xs.length ≤ 1000000 → K ((done ++ xs).map h) ⟨sl, st⟩ → dLcGo sl slw g dYes te all none K (xs.map f) (done.map h) st
  | [], done, _, _, hK => ⟨trivial, by rw [List.append_nil] at hK; exact hK⟩
  | x :: r, done, hs, hl, hK => ⟨trivial, hs x List.mem_cons_self _ fun sl' => by
    rw [List.length_cons] at hl
    refine ⟨by rw [List.length_map]; exact small_lt (by omega), ?_⟩
    have := lc_map f h (K := K) (all := all) (te := te) (g := g) (sl := sl) (slw := slw) (st := st) (xs := r) (done := done ++ [x]) (fun y hy => hs y (List.mem_cons_of_mem _ hy)) (by rw [List.length_append, List.length_singleton]; omega) (by rw [List.append_assoc]; exact hK)
    rw [List.map_append] at this
    exact this⟩
theorem dlc_map {α : Type} (f h : α → Dt) {xs : List α} {m : M} {g : Tgt} {t te : DE} {vs : List Nat} {Q : Vl → M → Prop} (ht : ∀ K : Vl → M → Prop, K (.d (.lst (xs.map f))) m → t m K)
    (hs : ∀ x ∈ xs, ∀ (C : Vl → M → Prop), (∀ sl', C (.d (h x)) ⟨sl', m.st⟩) → tgD g (.d (f x)) ⟨wipeD m.sl vs, m.st⟩ fun m1 => te m1 C) (hl : xs.length ≤ 1000000) (hK : Q (.d (.lst (xs.map h))) m) : dLc false (dAny t) g dYes te vs m Q :=
  ht _ (lc_map f h (done := []) hs (by simpa using hl) hK)
theorem append_st {i k : Nat} {te : DE} {E : DEnds} {m : M} {xs : List Dt} (d : Dt) (hv : m.sl[i]? = some (some (.c k))) (hc : m.st[k]? = some (.lst xs)) (ht : ∀ C : Vl → M → Prop, C (.d d) m → te m C) (hl : xs.length < sizeLine)
    (h : E.nx ⟨m.sl, m.st.set k (.lst (xs ++ [d]))⟩) : dDo (dMeth mAppend (dVar i) (dCons te dNil)) E m := by
  unfold dDo dMeth dVar
  rw [hv]
  refine ⟨⟨_, hc⟩, ht _ ?_⟩
  show onC m.st k _
  exact onC_mk hc ⟨hl, h⟩
theorem cut_drop (xs : List Dt) (j : Nat) (hj : j ≤ xs.length) : RT.cutD xs (some (j : Int)) none = xs.drop j := by
  unfold RT.cutD
  rw [HT.sIx_none, HT.sIx_nat, Nat.min_eq_left hj, List.take_of_length_le (by rw [List.length_drop]; exact Nat.le_refl _)]
end PG

set_option maxRecDepth 100000
set_option maxHeartbeats 4000000
namespace PG
open PySem PySem.Spec PyProof.Rows L2 RT

def Rg (hs : List Hp3) (x : Ray) : Prop := ∀ g ∈ hs, valH g x ≤ (g.r : Rat)
def Dir (g : Hp3) : Prop := ¬ (g.p = 0 ∧ g.q = 0)
def dt (g k : Hp3) : Int := g.p * k.q - g.q * k.p
def dotI (g k : Hp3) : Int := g.p * k.p + g.q * k.q
def lin2 (p q : Rat) (x : Ray) : Rat := p * x.1 + q * x.2
theorem exists_max {α : Type} (P : α → Prop) [DecidablePred P] (f : α → Rat) : ∀ l : List α, (∀ x ∈ l, ¬ P x) ∨ ∃ m ∈ l, P m ∧ ∀ x ∈ l, P x → f x ≤ f m
  | [] => .inl fun _ h => nomatch h
  | a :: l => by
    rcases exists_max P f l with h | ⟨m, hm, pm, h⟩
    · by_cases pa : P a
      · refine .inr ⟨a, List.mem_cons_self, pa, fun x hx px => ?_⟩
        rcases List.mem_cons.mp hx with e | e
        · rw [e]; exact Rat.le_refl
        · exact (h x e px).elim
      · refine .inl fun x hx px => ?_
        rcases List.mem_cons.mp hx with e | e
        · rw [e] at px; exact pa px
        · exact h x e px
    · by_cases pa : P a ∧ f m ≤ f a
      · refine .inr ⟨a, List.mem_cons_self, pa.1, fun x hx px => ?_⟩
        rcases List.mem_cons.mp hx with e | e
        · rw [e]; exact Rat.le_refl
        · exact Rat.le_trans (h x e px) pa.2
      · refine .inr ⟨m, List.mem_cons_of_mem _ hm, pm, fun x hx px => ?_⟩
        rcases List.mem_cons.mp hx with e | e
        · rw [e] at px ⊢
          rcases Rat.le_total (a := f m) (b := f a) with z | z
          · exact (pa ⟨px, z⟩).elim
          · exact z
        · exact h x e px
theorem exists_min {α : Type} (P : α → Prop) [DecidablePred P] (f : α → Rat) (l : List α) : (∀ x ∈ l, ¬ P x) ∨ ∃ m ∈ l, P m ∧ ∀ x ∈ l, P x → f m ≤ f x := by
  rcases exists_max P (fun x => - f x) l with h | ⟨m, hm, pm, h⟩
  · exact .inl h
  · exact .inr ⟨m, hm, pm, fun x hx px => by have := h x hx px; grind⟩
theorem elim1 (l : List (Rat × Rat)) (h0 : ∀ c ∈ l, c.1 = 0 → 0 ≤ c.2) (h2 : ∀ c ∈ l, ∀ d ∈ l, 0 < c.1 → d.1 < 0 → 0 ≤ c.2 * (-d.1) + d.2 * c.1) : ∃ v : Rat, ∀ c ∈ l, c.1 * v ≤ c.2 := by
  rcases exists_max (fun c : Rat × Rat => c.1 < 0) (fun c => c.2 / c.1) l with hn | ⟨m, hm, pm, hmax⟩
  · rcases exists_min (fun c : Rat × Rat => 0 < c.1) (fun c => c.2 / c.1) l with hp | ⟨k, hk, pk, hmin⟩
    · refine ⟨0, fun c hc => ?_⟩
      have e : c.1 = 0 := by
        have a := hn c hc
        have b := hp c hc
        grind
      rw [e]
      have := h0 c hc e
      grind
    · refine ⟨k.2 / k.1, fun c hc => ?_⟩
      by_cases e : c.1 = 0
      · rw [e]
        have := h0 c hc e
        grind
      · have p : 0 < c.1 := by
          have a := hn c hc
          grind
        have := hmin c hc p
        have q : c.1 * (k.2 / k.1) ≤ c.1 * (c.2 / c.1) := Rat.mul_le_mul_of_nonneg_left this (Rat.le_of_lt p)
        have : c.1 * (c.2 / c.1) = c.2 := by grind
        grind
  · refine ⟨m.2 / m.1, fun c hc => ?_⟩
    by_cases e : c.1 = 0
    · rw [e]
      have := h0 c hc e
      grind
    · by_cases p : 0 < c.1
      · have w := h2 c hc m hm p pm
        have e1 : m.2 = m.1 * (m.2 / m.1) := by grind
        generalize m.2 / m.1 = v at *
        rw [e1] at w
        -- 0 ≤ (-m.1) * (c.2 - c.1 * v)
        have w2 : 0 ≤ (-m.1) * (c.2 - c.1 * v) := by grind
        have w3 : (-m.1) * 0 ≤ (-m.1) * (c.2 - c.1 * v) := by grind
        have := Rat.le_of_mul_le_mul_left w3 (by grind)
        grind
      · have n : c.1 < 0 := by grind
        have w := hmax c hc n
        have q : (-c.1) * (c.2 / c.1) ≤ (-c.1) * (m.2 / m.1) := Rat.mul_le_mul_of_nonneg_left w (by grind)
        have : c.1 * (c.2 / c.1) = c.2 := by grind
        grind

def sglB (p q : Rat) (g : Hp3) : Option Rat := if (g.p : Rat) * q - (g.q : Rat) * p = 0 ∧ 0 < (g.p : Rat) * p + (g.q : Rat) * q then some (((g.p : Rat) * p + (g.q : Rat) * q) / (dotI g g : Rat) * (g.r : Rat)) else none
def prW (p q : Rat) (g k : Hp3) : Option (Rat × Rat) := if dt g k = 0 then none else
  if (p * (k.q : Rat) - q * (k.p : Rat)) / (dt g k : Rat) ≤ 0 ∨ (q * (g.p : Rat) - p * (g.q : Rat)) / (dt g k : Rat) ≤ 0 then none
  else some ((p * (k.q : Rat) - q * (k.p : Rat)) / (dt g k : Rat), (q * (g.p : Rat) - p * (g.q : Rat)) / (dt g k : Rat))
def prB (p q : Rat) (g k : Hp3) : Option Rat := (prW p q g k).map fun w => w.1 * (g.r : Rat) + w.2 * (k.r : Rat)
def prs (p q : Rat) : List Hp3 → List (Option Rat)
  | [] => []
  | g :: r => r.map (prB p q g) ++ prs p q r
def bounds (p q : Rat) (hs : List Hp3) : List (Option Rat) := hs.map (sglB p q) ++ prs p q hs
theorem prs_mem {p q : Rat} {g k : Hp3} (hne : g ≠ k) : ∀ {hs : List Hp3}, g ∈ hs → k ∈ hs → prB p q g k ∈ prs p q hs ∨ prB p q k g ∈ prs p q hs
  | a :: r, hg, hk => by
    rcases List.mem_cons.mp hg with eg | hg <;> rcases List.mem_cons.mp hk with ek | hk
    · exact (hne (eg.trans ek.symm)).elim
    · exact .inl (List.mem_append_left _ (List.mem_map.mpr ⟨k, hk, by rw [eg]⟩))
    · exact .inr (List.mem_append_left _ (List.mem_map.mpr ⟨g, hg, by rw [ek]⟩))
    · rcases prs_mem hne hg hk with h | h
      · exact .inl (List.mem_append_right _ h)
      · exact .inr (List.mem_append_right _ h)
theorem mem_prs {p q : Rat} {o : Option Rat} : ∀ {hs : List Hp3}, o ∈ prs p q hs → ∃ g ∈ hs, ∃ k ∈ hs, o = prB p q g k
  | a :: r, h => by
    rcases List.mem_append.mp (show o ∈ r.map (prB p q a) ++ prs p q r from h) with h | h
    · obtain ⟨k, hk, rfl⟩ := List.mem_map.mp h
      exact ⟨a, List.mem_cons_self, k, List.mem_cons_of_mem _ hk, rfl⟩
    · obtain ⟨g, hg, k, hk, e⟩ := mem_prs h
      exact ⟨g, List.mem_cons_of_mem _ hg, k, List.mem_cons_of_mem _ hk, e⟩
theorem castI {a b : Int} : ((a * b : Int) : Rat) = (a : Rat) * (b : Rat) := Rat.intCast_mul ..
theorem dt_cast (g k : Hp3) : (dt g k : Rat) = (g.p : Rat) * (k.q : Rat) - (g.q : Rat) * (k.p : Rat) := by
  unfold dt
  rw [Rat.intCast_sub, castI, castI]
theorem dot_cast (g k : Hp3) : (dotI g k : Rat) = (g.p : Rat) * (k.p : Rat) + (g.q : Rat) * (k.q : Rat) := by
  unfold dotI
  rw [Rat.intCast_add, castI, castI]
theorem sq_pos {a : Rat} (h : a ≠ 0) : 0 < a * a := by
  rcases Rat.le_total (a := 0) (b := a) with z | z
  · have : 0 < a := by grind
    exact Rat.mul_pos this this
  · have : 0 < -a := by grind
    have := Rat.mul_pos this this
    grind
theorem sq_nn (a : Rat) : 0 ≤ a * a := by
  by_cases h : a = 0
  · rw [h]; grind
  · exact Rat.le_of_lt (sq_pos h)
theorem n2_pos {p q : Rat} (h : ¬ (p = 0 ∧ q = 0)) : 0 < p * p + q * q := by
  have a := sq_nn p
  have b := sq_nn q
  by_cases hp : p = 0
  · have hq : q ≠ 0 := fun e => h ⟨hp, e⟩
    have := sq_pos hq
    grind
  · have := sq_pos hp
    grind
theorem Dir.rat {g : Hp3} (h : Dir g) : ¬ ((g.p : Rat) = 0 ∧ (g.q : Rat) = 0) := fun ⟨a, b⟩ => h ⟨Rat.intCast_eq_zero_iff.mp a, Rat.intCast_eq_zero_iff.mp b⟩
theorem Dir.pos {g : Hp3} (h : Dir g) : (0 : Rat) < (dotI g g : Rat) := by
  rw [dot_cast]
  exact n2_pos h.rat
theorem mul_le {a b c : Rat} (h : b ≤ c) (ha : 0 ≤ a) : a * b ≤ a * c := Rat.mul_le_mul_of_nonneg_left h ha
theorem of_mul_le {a b c : Rat} (h : a * b ≤ a * c) (ha : 0 < a) : b ≤ c := Rat.le_of_mul_le_mul_left h ha
end PG

set_option maxRecDepth 100000
set_option maxHeartbeats 4000000
namespace PG
open PySem PySem.Spec PyProof.Rows L2 RT
theorem prW_some {p q : Rat} {g k : Hp3} {w : Rat × Rat} (h : prW p q g k = some w) : dt g k ≠ 0 ∧ 0 < w.1 ∧ 0 < w.2 ∧ w.1 * (g.p : Rat) + w.2 * (k.p : Rat) = p ∧ w.1 * (g.q : Rat) + w.2 * (k.q : Rat) = q := by
  unfold prW at h
  by_cases h0 : dt g k = 0
  · rw [if_pos h0] at h
    cases h
  · rw [if_neg h0] at h
    split at h
    · cases h
    · rename_i hn
      cases h
      have hd : (dt g k : Rat) ≠ 0 := fun e => h0 (Rat.intCast_eq_zero_iff.mp e)
      have e := dt_cast g k
      generalize (dt g k : Rat) = d at *
      refine ⟨h0, by grind, by grind, ?_, ?_⟩
      · show (p * (k.q : Rat) - q * (k.p : Rat)) / d * (g.p : Rat) + (q * (g.p : Rat) - p * (g.q : Rat)) / d * (k.p : Rat) = p
        grind
      · show (p * (k.q : Rat) - q * (k.p : Rat)) / d * (g.q : Rat) + (q * (g.p : Rat) - p * (g.q : Rat)) / d * (k.q : Rat) = q
        grind
theorem bound_ok {p q : Rat} {hs : List Hp3} (hd : ∀ g ∈ hs, Dir g) {x : Ray} (hx : Rg hs x) {b : Rat} (hb : some b ∈ bounds p q hs) : lin2 p q x ≤ b := by
  rcases List.mem_append.mp hb with h | h
  · obtain ⟨g, hg, e⟩ := List.mem_map.mp h
    unfold sglB at e
    split at e
    · rename_i hc
      cases e
      have hp := (hd g hg).pos
      have e := dot_cast g g
      have hx' := hx g hg
      unfold valH at hx'
      unfold lin2
      generalize (dotI g g : Rat) = d at *
      generalize (g.p : Rat) = gp at *
      generalize (g.q : Rat) = gq at *
      generalize (g.r : Rat) = gr at *
      -- p = t gp, q = t gq with t = along / d
      have t0 : 0 < (gp * p + gq * q) / d := by
        rw [Rat.div_def]
        exact Rat.mul_pos hc.2 (Rat.inv_pos.mpr hp)
      have e1 : (gp * p + gq * q) / d * gp = p := by grind
      have e2 : (gp * p + gq * q) / d * gq = q := by grind
      generalize (gp * p + gq * q) / d = t at *
      have := mul_le hx' (Rat.le_of_lt t0)
      have e3 : p * x.1 + q * x.2 = t * (gp * x.1 + gq * x.2) := by
        rw [← e1, ← e2]
        grind
      rw [e3]
      exact this
    · cases e
  · obtain ⟨g, hg, k, hk, e⟩ := mem_prs h
    unfold prB at e
    cases hw : prW p q g k with
    | none =>
      rw [hw] at e
      cases e
    | some w =>
      rw [hw] at e
      obtain ⟨_, w1, w2, e1, e2⟩ := prW_some hw
      have e' : b = w.1 * (g.r : Rat) + w.2 * (k.r : Rat) := Option.some.inj e
      rw [e']
      have a1 := mul_le (hx g hg) (Rat.le_of_lt w1)
      have a2 := mul_le (hx k hk) (Rat.le_of_lt w2)
      unfold valH at a1 a2
      unfold lin2
      rw [← e1, ← e2]
      grind
theorem reach {p q : Rat} (hpq : ¬ (p = 0 ∧ q = 0)) {hs : List Hp3} (hd : ∀ g ∈ hs, Dir g) {x0 : Ray} (hx : Rg hs x0) {m : Rat} (h1 : lin2 p q x0 ≤ m) (h2 : ∀ b, some b ∈ bounds p q hs → m ≤ b) : ∃ x, Rg hs x ∧ lin2 p q x = m := by
  have hn := n2_pos hpq
  obtain ⟨n2, en⟩ : ∃ n2, p * p + q * q = n2 := ⟨_, rfl⟩
  rw [en] at hn
  -- what a half-plane asks of the second coordinate
  have key : ∃ v : Rat, ∀ c ∈ hs.map (fun g : Hp3 => (((g.q : Rat) * p - (g.p : Rat) * q, (g.r : Rat) * n2 - ((g.p : Rat) * p + (g.q : Rat) * q) * m) : Rat × Rat)), c.1 * v ≤ c.2 := by
    refine elim1 _ (fun c hc e => ?_) fun c hc d hd' pc nd => ?_
    · obtain ⟨g, hg, rfl⟩ := List.mem_map.mp hc
      dsimp only at e ⊢
      have hxg := hx g hg
      have hdg := (hd g hg).rat
      have hpos := (hd g hg).pos
      have hb : 0 < (g.p : Rat) * p + (g.q : Rat) * q → m ≤ ((g.p : Rat) * p + (g.q : Rat) * q) / (dotI g g : Rat) * (g.r : Rat) := fun ha => by
        refine h2 _ (List.mem_append_left _ (List.mem_map.mpr ⟨g, hg, ?_⟩))
        unfold sglB
        rw [if_pos ⟨by grind, ha⟩]
      have ed := dot_cast g g
      unfold valH at hxg
      unfold lin2 at h1
      generalize (dotI g g : Rat) = d at *
      generalize (g.p : Rat) = gp at *
      generalize (g.q : Rat) = gq at *
      generalize (g.r : Rat) = gr at *
      obtain ⟨A, eA⟩ : ∃ A, gp * p + gq * q = A := ⟨_, rfl⟩
      rw [eA] at hb ⊢
      have id : A * A = d * n2 := by grind
      have nA : A ≠ 0 := fun z => by
        have := Rat.mul_pos hpos hn
        rw [← id, z] at this
        grind
      by_cases pA : 0 < A
      · have := mul_le (hb pA) (Rat.le_of_lt pA)
        have e3 : A * (A / d * gr) = gr * n2 := by
          have : A * (A / d * gr) = (A * A) / d * gr := by grind
          rw [this, id]
          grind
        rw [e3] at this
        grind
      · have nA' : 0 ≤ -A := by grind
        have a1 := mul_le h1 nA'
        -- A u0 = n2 (g x0) as the other coordinate vanishes
        have e4 : A * (p * x0.1 + q * x0.2) = n2 * (gp * x0.1 + gq * x0.2) := by grind
        have a2 := mul_le hxg (Rat.le_of_lt hn)
        grind
    · obtain ⟨g, hg, rfl⟩ := List.mem_map.mp hc
      obtain ⟨k, hk, rfl⟩ := List.mem_map.mp hd'
      dsimp only at pc nd ⊢
      have hxg := hx g hg
      have hxk := hx k hk
      have hne : g ≠ k := fun e => by
        rw [e] at pc
        grind
      have hb : 0 < (dt k g : Rat) → m ≤ (((k.q : Rat) * p - (k.p : Rat) * q) * (g.r : Rat) - ((g.q : Rat) * p - (g.p : Rat) * q) * (k.r : Rat)) / (dt g k : Rat) := fun hdt => by
        have e1 := dt_cast g k
        have e2 := dt_cast k g
        have hgk : (dt g k : Rat) < 0 := by grind
        have ngk : dt g k ≠ 0 := fun z => by rw [z] at hgk; exact absurd hgk (by decide)
        have nkg : dt k g ≠ 0 := fun z => by rw [z] at hdt; exact absurd hdt (by decide)
        have ekg : (dt k g : Rat) = - (dt g k : Rat) := by grind
        rcases prs_mem (p := p) (q := q) hne hg hk with h | h
        · refine h2 _ (List.mem_append_right _ ?_)
          have : prB p q g k = some ((((k.q : Rat) * p - (k.p : Rat) * q) * (g.r : Rat) - ((g.q : Rat) * p - (g.p : Rat) * q) * (k.r : Rat)) / (dt g k : Rat)) := by
            unfold prB prW
            generalize (dt g k : Rat) = d at *
            have w1 : 0 < (p * (k.q : Rat) - q * (k.p : Rat)) / d := by
              have : (p * (k.q : Rat) - q * (k.p : Rat)) / d = (-(p * (k.q : Rat) - q * (k.p : Rat))) / (-d) := by grind
              rw [this, Rat.div_def]
              exact Rat.mul_pos (by grind) (Rat.inv_pos.mpr (by grind))
            have w2 : 0 < (q * (g.p : Rat) - p * (g.q : Rat)) / d := by
              have : (q * (g.p : Rat) - p * (g.q : Rat)) / d = (-(q * (g.p : Rat) - p * (g.q : Rat))) / (-d) := by grind
              rw [this, Rat.div_def]
              exact Rat.mul_pos (by grind) (Rat.inv_pos.mpr (by grind))
            rw [if_neg ngk, if_neg (by grind)]
            show some _ = some _
            congr 1
            grind
          rw [← this]
          exact h
        · refine h2 _ (List.mem_append_right _ ?_)
          have : prB p q k g = some ((((k.q : Rat) * p - (k.p : Rat) * q) * (g.r : Rat) - ((g.q : Rat) * p - (g.p : Rat) * q) * (k.r : Rat)) / (dt g k : Rat)) := by
            unfold prB prW
            rw [ekg] at hdt ⊢
            generalize (dt g k : Rat) = d at *
            have w1 : 0 < (p * (g.q : Rat) - q * (g.p : Rat)) / (-d) := by
              rw [Rat.div_def]
              exact Rat.mul_pos (by grind) (Rat.inv_pos.mpr (by grind))
            have w2 : 0 < (q * (k.p : Rat) - p * (k.q : Rat)) / (-d) := by
              rw [Rat.div_def]
              exact Rat.mul_pos (by grind) (Rat.inv_pos.mpr (by grind))
            rw [if_neg nkg, if_neg (by grind)]
            show some _ = some _
            congr 1
            grind
          rw [← this]
          exact h
      have e1 := dt_cast g k
      have e2 := dt_cast k g
      unfold valH at hxg hxk
      unfold lin2 at h1
      generalize (dt g k : Rat) = d at *
      generalize (dt k g : Rat) = d' at *
      generalize (g.p : Rat) = gp at *
      generalize (g.q : Rat) = gq at *
      generalize (g.r : Rat) = gr at *
      generalize (k.p : Rat) = kp at *
      generalize (k.q : Rat) = kq at *
      generalize (k.r : Rat) = kr at *
      obtain ⟨B, eB⟩ : ∃ B, gq * p - gp * q = B := ⟨_, rfl⟩
      obtain ⟨C, eC⟩ : ∃ C, kq * p - kp * q = C := ⟨_, rfl⟩
      rw [eB] at pc hb
      rw [eC] at nd hb
      have idW : (gp * p + gq * q) * (-C) + (kp * p + kq * q) * B = n2 * d' := by grind
      have goal2 : m * (n2 * d') ≤ n2 * (gr * (-C) + kr * B) := by
        by_cases hdt : 0 < d'
        · have w := mul_le (hb hdt) (Rat.le_of_lt (Rat.mul_pos hn hdt))
          have e3 : n2 * d' * ((C * gr - B * kr) / d) = n2 * (gr * (-C) + kr * B) := by
            have : d' = -d := by grind
            rw [this]
            have : d ≠ 0 := by grind
            grind
          rw [e3] at w
          grind
        · have nn : 0 ≤ -(n2 * d') := by
            have := mul_le (show (0 : Rat) ≤ -d' by grind) (Rat.le_of_lt hn)
            grind
          have w := mul_le h1 nn
          have a1 := mul_le hxg (show 0 ≤ n2 * (-C) by
            have := mul_le (show (0 : Rat) ≤ -C by grind) (Rat.le_of_lt hn)
            grind)
          have a2 := mul_le hxk (show 0 ≤ n2 * B by
            have := mul_le (show (0 : Rat) ≤ B by grind) (Rat.le_of_lt hn)
            grind)
          have e5 : n2 * d' * (p * x0.1 + q * x0.2) = n2 * (-C) * (gp * x0.1 + gq * x0.2) + n2 * B * (kp * x0.1 + kq * x0.2) := by grind
          have w' : n2 * d' * m ≤ n2 * d' * (p * x0.1 + q * x0.2) := by
            clear e5 a1 a2 idW hb
            generalize p * x0.1 + q * x0.2 = U at *
            generalize n2 * d' = V at *
            grind
          rw [e5] at w'
          clear e5 w nn idW hb eB eC e1 e2
          generalize gp * x0.1 + gq * x0.2 = U at *
          generalize kp * x0.1 + kq * x0.2 = V at *
          grind
      have fin : (gr * n2 - (gp * p + gq * q) * m) * (-C) + (kr * n2 - (kp * p + kq * q) * m) * B = n2 * (gr * (-C) + kr * B) - m * (n2 * d') := by
        rw [← idW]
        clear idW goal2 hb e1 e2 eB eC
        grind
      rw [eB, eC, fin]
      clear fin idW hb
      grind
  obtain ⟨v, hv⟩ := key
  refine ⟨((p * m - q * v) / n2, (q * m + p * v) / n2), fun g hg => ?_, ?_⟩
  · have := hv _ (List.mem_map.mpr ⟨g, hg, rfl⟩)
    dsimp only at this
    unfold valH
    generalize (g.p : Rat) = gp at *
    generalize (g.q : Rat) = gq at *
    generalize (g.r : Rat) = gr at *
    refine of_mul_le (a := n2) ?_ hn
    have e : n2 * (gp * ((p * m - q * v) / n2) + gq * ((q * m + p * v) / n2)) = gp * (p * m - q * v) + gq * (q * m + p * v) := by grind
    show n2 * (gp * ((p * m - q * v) / n2) + gq * ((q * m + p * v) / n2)) ≤ _
    rw [e]
    grind
  · unfold lin2
    show p * ((p * m - q * v) / n2) + q * ((q * m + p * v) / n2) = m
    have e : p * ((p * m - q * v) / n2) + q * ((q * m + p * v) / n2) = (p * p + q * q) * m / n2 := by grind
    rw [e, en]
    grind
end PG

set_option maxRecDepth 100000
set_option maxHeartbeats 4000000
namespace PG
open PySem PySem.Spec PyProof.Rows L2 RT

def ab (a : Int) : Int := if a < 0 then -a else a
def n1 (g : Hp3) : Int := ab g.p + ab g.q
def oppW (g k : Hp3) : Option (Int × Int) := if dt g k ≠ 0 ∨ 0 ≤ dotI g k then none else some (n1 k / (Int.gcd (n1 k) (n1 g) : Int), n1 g / (Int.gcd (n1 k) (n1 g) : Int))
def w3 (g k l : Hp3) : Int × Int × Int := if dt k l < 0 then (-dt k l, -dt l g, -dt g k) else (dt k l, dt l g, dt g k)
def gcd3 (a b c : Int) : Int := (Int.gcd (Int.gcd a b : Int) c : Int)
def triW (g k l : Hp3) : Option (Int × Int × Int) := if (w3 g k l).1 ≤ 0 ∨ (w3 g k l).2.1 ≤ 0 ∨ (w3 g k l).2.2 ≤ 0 then none else
  some ((w3 g k l).1 / gcd3 (w3 g k l).1 (w3 g k l).2.1 (w3 g k l).2.2, (w3 g k l).2.1 / gcd3 (w3 g k l).1 (w3 g k l).2.1 (w3 g k l).2.2, (w3 g k l).2.2 / gcd3 (w3 g k l).1 (w3 g k l).2.1 (w3 g k l).2.2)
theorem ab_nat (a : Int) : ab a = (a.natAbs : Int) := abs_eq a
theorem n1_pos {g : Hp3} (h : Dir g) : 0 < n1 g := by
  unfold n1 ab
  unfold Dir at h
  split <;> split <;> omega
theorem dt_swap (g k : Hp3) : dt k g = - dt g k := by
  unfold dt
  grind
theorem dot_dir {g k : Hp3} (h : dotI g k < 0) : Dir g ∧ Dir k := by
  unfold dotI at h
  exact ⟨fun ⟨a, b⟩ => by rw [a, b] at h; omega, fun ⟨a, b⟩ => by rw [a, b] at h; omega⟩
theorem opp_lam {g k : Hp3} (h0 : dt g k = 0) (h1 : dotI g k < 0) : ∃ t : Rat, 0 < t ∧ (k.p : Rat) = - t * (g.p : Rat) ∧ (k.q : Rat) = - t * (g.q : Rat) := by
  have hg := (dot_dir h1).1.pos
  have e0 := dt_cast g k
  rw [h0] at e0
  have e1 := dot_cast g k
  have e2 := dot_cast g g
  have h1' : (dotI g k : Rat) < 0 := Rat.intCast_neg_iff.mpr h1
  refine ⟨-(dotI g k : Rat) / (dotI g g : Rat), ?_, ?_, ?_⟩
  · rw [Rat.div_def]
    exact Rat.mul_pos (by grind) (Rat.inv_pos.mpr hg)
  · generalize (dotI g g : Rat) = d at *
    generalize (dotI g k : Rat) = e at *
    have : ((0 : Int) : Rat) = 0 := rfl
    grind
  · generalize (dotI g g : Rat) = d at *
    generalize (dotI g k : Rat) = e at *
    have : ((0 : Int) : Rat) = 0 := rfl
    grind
theorem ab_cast (a : Int) : (ab a : Rat) = if (a : Rat) < 0 then -(a : Rat) else (a : Rat) := by
  unfold ab
  by_cases h : a < 0
  · rw [if_pos h, if_pos (Rat.intCast_neg_iff.mpr h), Rat.intCast_neg]
  · rw [if_neg h, if_neg (fun z => h (Rat.intCast_neg_iff.mp z))]
theorem n1_cast (g : Hp3) : (n1 g : Rat) = (ab g.p : Rat) + (ab g.q : Rat) := by
  unfold n1
  rw [Rat.intCast_add]
theorem ab_mul {t a b : Rat} (ht : 0 < t) (h : b = - t * a) : (if b < 0 then -b else b) = t * (if a < 0 then -a else a) := by
  by_cases h0 : a = 0
  · subst h0
    have : b = 0 := by grind
    subst this
    simp
  · by_cases n : a < 0
    · have w := Rat.mul_pos ht (show 0 < -a by grind)
      rw [if_pos n, if_neg (by grind)]
      grind
    · have w := Rat.mul_pos ht (show 0 < a by grind)
      rw [if_neg n, if_pos (by grind)]
      grind
theorem opp_n1 {g k : Hp3} {t : Rat} (ht : 0 < t) (h1 : (k.p : Rat) = - t * (g.p : Rat)) (h2 : (k.q : Rat) = - t * (g.q : Rat)) : (n1 k : Rat) = t * (n1 g : Rat) := by
  rw [n1_cast, n1_cast, ab_cast, ab_cast, ab_cast, ab_cast, ab_mul ht h1, ab_mul ht h2]
  grind
theorem oppW_some {g k : Hp3} {a b : Int} (h : oppW g k = some (a, b)) : dt g k = 0 ∧ dotI g k < 0 ∧ 0 < a ∧ 0 < b ∧ ∃ d : Int, 0 < d ∧ a * d = n1 k ∧ b * d = n1 g := by
  unfold oppW at h
  split at h
  · cases h
  · rename_i hn
    have h0 : dt g k = 0 := by
      by_cases z : dt g k = 0
      · exact z
      · exact (hn (.inl z)).elim
    have h1 : dotI g k < 0 := by
      have : ¬ 0 ≤ dotI g k := fun z => hn (.inr z)
      omega
    have pg := n1_pos (dot_dir h1).1
    have pk := n1_pos (dot_dir h1).2
    have dv1 : (Int.gcd (n1 k) (n1 g) : Int) ∣ n1 k := Int.gcd_dvd_left ..
    have dv2 : (Int.gcd (n1 k) (n1 g) : Int) ∣ n1 g := Int.gcd_dvd_right ..
    have dpos : 0 < (Int.gcd (n1 k) (n1 g) : Int) := by
      have : Int.gcd (n1 k) (n1 g) ≠ 0 := fun e => by
        have := (Int.gcd_eq_zero_iff.mp e).1
        omega
      omega
    generalize (Int.gcd (n1 k) (n1 g) : Int) = d at *
    cases h
    have e1 := Int.ediv_mul_cancel dv1
    have e2 := Int.ediv_mul_cancel dv2
    refine ⟨h0, h1, ?_, ?_, d, dpos, e1, e2⟩
    · rw [← e1] at pk
      exact Int.pos_of_mul_pos_right pk dpos
    · rw [← e2] at pg
      exact Int.pos_of_mul_pos_right pg dpos
where
  Int.pos_of_mul_pos_right {a d : Int} (h : 0 < a * d) (hd : 0 < d) : 0 < a := by
    rcases Int.lt_trichotomy a 0 with z | z | z
    · have := Int.mul_neg_of_neg_of_pos z hd
      omega
    · rw [z] at h
      omega
    · exact z
theorem mul_cancel_r {a b d : Rat} (hd : d ≠ 0) (h : a * d = b * d) : a = b := by
  have : a = a * d / d := by grind
  rw [this, h]
  grind
theorem oppW_dep {g k : Hp3} {a b : Int} (h : oppW g k = some (a, b)) : (a : Rat) * (g.p : Rat) + (b : Rat) * (k.p : Rat) = 0 ∧ (a : Rat) * (g.q : Rat) + (b : Rat) * (k.q : Rat) = 0 := by
  obtain ⟨h0, h1, pa, pb, d, hd, ea, eb⟩ := oppW_some h
  obtain ⟨t, ht, e1, e2⟩ := opp_lam h0 h1
  have en := opp_n1 ht e1 e2
  rw [← ea, ← eb, castI, castI] at en
  have hd' : (0 : Rat) < (d : Rat) := Rat.intCast_pos.mpr hd
  generalize (d : Rat) = d at *
  generalize (a : Rat) = a at *
  generalize (b : Rat) = b at *
  have : a = t * b := mul_cancel_r (show d ≠ 0 by grind) (by grind)
  rw [e1, e2, this]
  constructor <;> grind
theorem triW_some {g k l : Hp3} {a b c : Int} (h : triW g k l = some (a, b, c)) : 0 < a ∧ 0 < b ∧ 0 < c ∧ ∃ d : Int, d ≠ 0 ∧ a * d = dt k l ∧ b * d = dt l g ∧ c * d = dt g k := by
  unfold triW at h
  split at h
  · cases h
  · rename_i hn
    have p1 : 0 < (w3 g k l).1 := by
      have : ¬ (w3 g k l).1 ≤ 0 := fun z => hn (.inl z)
      omega
    have p2 : 0 < (w3 g k l).2.1 := by
      have : ¬ (w3 g k l).2.1 ≤ 0 := fun z => hn (.inr (.inl z))
      omega
    have p3 : 0 < (w3 g k l).2.2 := by
      have : ¬ (w3 g k l).2.2 ≤ 0 := fun z => hn (.inr (.inr z))
      omega
    obtain ⟨s, hs, s1, s2, s3⟩ : ∃ s : Int, s ≠ 0 ∧ (w3 g k l).1 * s = dt k l ∧ (w3 g k l).2.1 * s = dt l g ∧ (w3 g k l).2.2 * s = dt g k := by
      unfold w3
      split
      · exact ⟨-1, by decide, by dsimp only; omega, by dsimp only; omega, by dsimp only; omega⟩
      · exact ⟨1, by decide, by dsimp only; omega, by dsimp only; omega, by dsimp only; omega⟩
    generalize (w3 g k l).1 = x at *
    generalize (w3 g k l).2.1 = y at *
    generalize (w3 g k l).2.2 = z at *
    have dv : (Int.gcd x y : Int) ∣ x ∧ (Int.gcd x y : Int) ∣ y := ⟨Int.gcd_dvd_left .., Int.gcd_dvd_right ..⟩
    have dv0 : gcd3 x y z ∣ (Int.gcd x y : Int) := Int.gcd_dvd_left ..
    have dv1 : gcd3 x y z ∣ x := Int.dvd_trans dv0 dv.1
    have dv2 : gcd3 x y z ∣ y := Int.dvd_trans dv0 dv.2
    have dv3 : gcd3 x y z ∣ z := Int.gcd_dvd_right ..
    have dpos : 0 < gcd3 x y z := by
      have : Int.gcd (Int.gcd x y : Int) z ≠ 0 := fun e => by
        have := (Int.gcd_eq_zero_iff.mp e).2
        omega
      unfold gcd3
      omega
    generalize gcd3 x y z = d at *
    cases h
    have e1 := Int.ediv_mul_cancel dv1
    have e2 := Int.ediv_mul_cancel dv2
    have e3 := Int.ediv_mul_cancel dv3
    refine ⟨?_, ?_, ?_, d * s, ?_, ?_, ?_, ?_⟩
    · rw [← e1] at p1
      exact oppW_some.Int.pos_of_mul_pos_right p1 dpos
    · rw [← e2] at p2
      exact oppW_some.Int.pos_of_mul_pos_right p2 dpos
    · rw [← e3] at p3
      exact oppW_some.Int.pos_of_mul_pos_right p3 dpos
    · exact Int.mul_ne_zero (by omega) hs
    · rw [← Int.mul_assoc, e1, s1]
    · rw [← Int.mul_assoc, e2, s2]
    · rw [← Int.mul_assoc, e3, s3]
theorem triW_dep {g k l : Hp3} {a b c : Int} (h : triW g k l = some (a, b, c)) : (a : Rat) * (g.p : Rat) + (b : Rat) * (k.p : Rat) + (c : Rat) * (l.p : Rat) = 0 ∧ (a : Rat) * (g.q : Rat) + (b : Rat) * (k.q : Rat) + (c : Rat) * (l.q : Rat) = 0 := by
  obtain ⟨_, _, _, d, hd, e1, e2, e3⟩ := triW_some h
  have hd' : (d : Rat) ≠ 0 := fun z => hd (Rat.intCast_eq_zero_iff.mp z)
  have f1 : (a : Rat) * (d : Rat) = (dt k l : Rat) := by rw [← castI, e1]
  have f2 : (b : Rat) * (d : Rat) = (dt l g : Rat) := by rw [← castI, e2]
  have f3 : (c : Rat) * (d : Rat) = (dt g k : Rat) := by rw [← castI, e3]
  rw [dt_cast] at f1 f2 f3
  generalize (d : Rat) = d at *
  generalize (a : Rat) = a at *
  generalize (b : Rat) = b at *
  generalize (c : Rat) = c at *
  constructor
  · have : d * (a * (g.p : Rat) + b * (k.p : Rat) + c * (l.p : Rat)) = 0 := by grind
    grind
  · have : d * (a * (g.q : Rat) + b * (k.q : Rat) + c * (l.q : Rat)) = 0 := by grind
    grind

def C2 (g k : Hp3) : Prop := ∃ t : Rat, 0 < t ∧ (k.p : Rat) = - t * (g.p : Rat) ∧ (k.q : Rat) = - t * (g.q : Rat) ∧ Dir g ∧ t * (g.r : Rat) + (k.r : Rat) < 0
def C3 (g k l : Hp3) : Prop := ∃ a b c : Rat, 0 < a ∧ 0 < b ∧ 0 < c ∧ a * (g.p : Rat) + b * (k.p : Rat) + c * (l.p : Rat) = 0 ∧ a * (g.q : Rat) + b * (k.q : Rat) + c * (l.q : Rat) = 0 ∧ a * (g.r : Rat) + b * (k.r : Rat) + c * (l.r : Rat) < 0 ∧ dt g k ≠ 0
theorem helly : ∀ {hs : List Hp3}, (∀ g ∈ hs, Dir g) → (∃ x, Rg hs x) ∨ (∃ g ∈ hs, ∃ k ∈ hs, C2 g k) ∨ (∃ g ∈ hs, ∃ k ∈ hs, ∃ l ∈ hs, C3 g k l)
  | [], _ => .inl ⟨(0, 0), fun g hg => nomatch hg⟩
  | g :: r, hd => by
    rcases helly (hs := r) fun k hk => hd k (List.mem_cons_of_mem _ hk) with ⟨x0, hx⟩ | ⟨k, hk, l, hl, h⟩ | ⟨k, hk, l, hl, m, hm, h⟩
    · by_cases c : valH g x0 ≤ (g.r : Rat)
      · refine .inl ⟨x0, fun k hk => ?_⟩
        rcases List.mem_cons.mp hk with e | e
        · rw [e]; exact c
        · exact hx k e
      · have dg := (hd g List.mem_cons_self).rat
        have hpq : ¬ (-(g.p : Rat) = 0 ∧ -(g.q : Rat) = 0) := fun ⟨a, b⟩ => dg ⟨by grind, by grind⟩
        by_cases hall : ∀ b, some b ∈ bounds (-(g.p : Rat)) (-(g.q : Rat)) r → -(g.r : Rat) ≤ b
        · obtain ⟨x, hx1, hx2⟩ := reach hpq (fun k hk => hd k (List.mem_cons_of_mem _ hk)) hx (m := -(g.r : Rat)) (by unfold lin2; unfold valH at c; grind) hall
          refine .inl ⟨x, fun k hk => ?_⟩
          rcases List.mem_cons.mp hk with e | e
          · rw [e]
            unfold lin2 at hx2
            unfold valH
            grind
          · exact hx1 k e
        · obtain ⟨b, hb⟩ : ∃ b, ¬ (some b ∈ bounds (-(g.p : Rat)) (-(g.q : Rat)) r → -(g.r : Rat) ≤ b) := Classical.not_forall.mp hall
          obtain ⟨hb1, hb2⟩ := Classical.not_imp.mp hb
          refine .inr ?_
          rcases List.mem_append.mp hb1 with h | h
          · obtain ⟨k, hk, e⟩ := List.mem_map.mp h
            refine .inl ⟨k, List.mem_cons_of_mem _ hk, g, List.mem_cons_self, ?_⟩
            unfold sglB at e
            split at e
            · rename_i hc
              have e := Option.some.inj e
              have hp := (hd k (List.mem_cons_of_mem _ hk)).pos
              have e2 := dot_cast k k
              generalize (dotI k k : Rat) = d at *
              refine ⟨((k.p : Rat) * -(g.p : Rat) + (k.q : Rat) * -(g.q : Rat)) / d, ?_, ?_, ?_, hd k (List.mem_cons_of_mem _ hk), ?_⟩
              · rw [Rat.div_def]
                exact Rat.mul_pos hc.2 (Rat.inv_pos.mpr hp)
              · grind
              · grind
              · rw [e]
                grind
            · cases e
          · obtain ⟨k, hk, l, hl, e⟩ := mem_prs h
            refine .inr ⟨k, List.mem_cons_of_mem _ hk, l, List.mem_cons_of_mem _ hl, g, List.mem_cons_self, ?_⟩
            unfold prB at e
            cases hw : prW (-(g.p : Rat)) (-(g.q : Rat)) k l with
            | none =>
              rw [hw] at e
              cases e
            | some w =>
              rw [hw] at e
              obtain ⟨nd, w1, w2, f1, f2⟩ := prW_some hw
              have e' : b = w.1 * (k.r : Rat) + w.2 * (l.r : Rat) := Option.some.inj e
              exact ⟨w.1, w.2, 1, w1, w2, by decide, by grind, by grind, by grind, nd⟩
    · exact .inr (.inl ⟨k, List.mem_cons_of_mem _ hk, l, List.mem_cons_of_mem _ hl, h⟩)
    · exact .inr (.inr ⟨k, List.mem_cons_of_mem _ hk, l, List.mem_cons_of_mem _ hl, m, List.mem_cons_of_mem _ hm, h⟩)
end PG

set_option maxRecDepth 100000
set_option maxHeartbeats 4000000
namespace PG
open PySem PySem.Spec PyProof.Rows L2 RT
theorem lgm {a b : Int} {n m : Nat} (h1 : a.natAbs.log2 + 2 ≤ n) (h2 : b.natAbs.log2 + 2 ≤ m) : (a * b).natAbs.log2 + 3 ≤ n + m := by
  have := @log2_mul_le a.natAbs b.natAbs
  rw [Int.natAbs_mul]
  omega
theorem lga {a b : Int} {n : Nat} (h1 : a.natAbs.log2 ≤ n) (h2 : b.natAbs.log2 ≤ n) : (a + b).natAbs.log2 ≤ n + 1 := by
  have := log2_mono (Int.natAbs_add_le a b)
  have := @log2_add_le a.natAbs b.natAbs
  omega
theorem lgs {a b : Int} {n : Nat} (h1 : a.natAbs.log2 ≤ n) (h2 : b.natAbs.log2 ≤ n) : (a - b).natAbs.log2 ≤ n + 1 := by
  rw [Int.sub_eq_add_neg]
  exact lga h1 (by rw [Int.natAbs_neg]; exact h2)
theorem dt_z {n : Nat} {g k : Hp3} (hg : HZ n g) (hk : HZ n k) : (dt g k).natAbs.log2 + 2 ≤ 2 * n := by
  have a := lgm hg.1 hk.2.1
  have b := lgm hg.2.1 hk.1
  have := lgs (a := g.p * k.q) (b := g.q * k.p) (n := 2 * n - 3) (by omega) (by omega)
  unfold dt
  omega
theorem dot_z {n : Nat} {g k : Hp3} (hg : HZ n g) (hk : HZ n k) : (dotI g k).natAbs.log2 + 2 ≤ 2 * n := by
  have a := lgm hg.1 hk.1
  have b := lgm hg.2.1 hk.2.1
  have := lga (a := g.p * k.p) (b := g.q * k.q) (n := 2 * n - 3) (by omega) (by omega)
  unfold dotI
  omega
section
variable {st : List Cell} {Q : Vl → List Cell → Prop} {g k l : Hp3} {n : Nat}
theorem det_ok (hg : HZ n g) (hk : HZ n k) (hn : n ≤ 10000000) (h : Q (.d (.int (dt g k))) st) : sp_determinant [.d (hpD g), .d (hpD k)] st Q := by
  unfold sp_determinant
  obtain ⟨g1, g2, _⟩ := hg
  obtain ⟨k1, k2, _⟩ := hk
  exact ⟨rfl, mulok (zm (by omega)), mulok (zm (by omega)), trivial, tk h⟩
theorem prod_ok (hg : HZ n g) (hk : HZ n k) (hn : n ≤ 10000000) (h : Q (.d (.int (dotI g k))) st) : sp_product [.d (hpD g), .d (hpD k)] st Q := by
  unfold sp_product
  obtain ⟨g1, g2, _⟩ := hg
  obtain ⟨k1, k2, _⟩ := hk
  exact ⟨rfl, mulok (zm (by omega)), mulok (zm (by omega)), tk h⟩
theorem ifd {P : Prop} [Decidable P] {A B : Prop} (ht : P → A) (hf : ¬ P → B) : if decide P = true then A else B := by
  by_cases h : P
  · rw [if_pos (decide_eq_true h)]
    exact ht h
  · rw [if_neg (by simpa using h)]
    exact hf h
def ow2D : Option (Int × Int) → Dt
  | none => .non
  | some (a, b) => .tup [.int a, .int b]
def ow3D : Option (Int × Int × Int) → Dt
  | none => .non
  | some (a, b, c) => .tup [.int a, .int b, .int c]
theorem oppw_ok (hg : HZ n g) (hk : HZ n k) (hn : n ≤ 10000000) (h : Q (.d (ow2D (oppW g k))) st) : sp_opposite_weights [.d (hpD g), .d (hpD k)] st Q := by
  unfold sp_opposite_weights
  refine ⟨rfl, ?_⟩
  let S : Option Vl → Option Vl → Option Vl → M := fun z2 z3 z4 => ⟨[some (.d (hpD g)), some (.d (hpD k)), z2, z3, z4], st⟩
  by_cases c : dt g k ≠ 0 ∨ 0 ≤ dotI g k
  · have e : oppW g k = none := by unfold oppW; rw [if_pos c]
    rw [e] at h
    refine det_ok hg hk hn ⟨rfl, rfl, ?_⟩
    show if (!eqD (.int (dt g k)) (.int 0)) = true then _ else _
    rw [eqD_int]
    by_cases c0 : dt g k = 0
    · rw [decide_eq_true c0, if_neg (by decide)]
      refine prod_ok hg hk hn ⟨trivial, ?_⟩
      refine ifd (fun _ => tk h) fun z => ?_
      exact (z (c.resolve_left (fun z => z c0))).elim
    · rw [decide_eq_false c0]
      exact tk h
  · have c0 : dt g k = 0 := Classical.not_not.mp fun z => c (.inl z)
    have c1 : ¬ 0 ≤ dotI g k := fun z => c (.inr z)
    have e : oppW g k = some (n1 k / (Int.gcd (n1 k) (n1 g) : Int), n1 g / (Int.gcd (n1 k) (n1 g) : Int)) := by unfold oppW; rw [if_neg c]
    rw [e] at h
    refine guard_st (S none none none) (fun K hK => ?_) ?_
    · refine det_ok hg hk hn ⟨rfl, rfl, ?_⟩
      show if (!eqD (.int (dt g k)) (.int 0)) = true then _ else _
      rw [eqD_int, decide_eq_true c0, if_neg (by decide)]
      refine prod_ok hg hk hn ⟨trivial, ?_⟩
      show K (decide (0 ≤ dotI g k)) _
      rw [decide_eq_false c1]
      exact hK
    refine seq_to (S (some (.d (.int (n1 k)))) none none) (fun K hK => hK) ?_
    refine seq_to (S (some (.d (.int (n1 k)))) (some (.d (.int (n1 g)))) none) (fun K hK => hK) ?_
    have dpos : (Int.gcd (n1 k) (n1 g) : Int) ≠ 0 := by
      have hd : Int.gcd (n1 k) (n1 g) ≠ 0 := fun e => by
        have := (Int.gcd_eq_zero_iff.mp e).1
        have := n1_pos (dot_dir (show dotI g k < 0 by omega)).2
        omega
      omega
    refine gcd_ok ⟨dpos, dpos, lineN rfl, tk ?_⟩
    show Q (.d (.tup [.int ((n1 k).fdiv (Int.gcd (n1 k) (n1 g) : Int)), .int ((n1 g).fdiv (Int.gcd (n1 k) (n1 g) : Int))])) st
    rw [fdiv_pos (by omega), fdiv_pos (by omega)]
    exact h
theorem triw_ok (hg : HZ n g) (hk : HZ n k) (hl : HZ n l) (hn : n ≤ 10000000) (h : Q (.d (ow3D (triW g k l))) st) : sp_triple_weights [.d (hpD g), .d (hpD k), .d (hpD l)] st Q := by
  unfold sp_triple_weights
  refine ⟨rfl, ?_⟩
  let S : Option Vl → Option Vl → M := fun z3 z4 => ⟨[some (.d (hpD g)), some (.d (hpD k)), some (.d (hpD l)), z3, z4, none], st⟩
  have triD : ∀ a b c : Int, Dt.lst [.int a, .int b, .int c] = .lst ([a, b, c].map .int) := fun _ _ _ => rfl
  refine seq_to (S (some (.d (.lst ([dt k l, dt l g, dt g k].map .int)))) none) (fun K hK => ?_) ?_
  · refine det_ok hk hl hn ?_
    refine det_ok hl hg hn ?_
    refine det_ok hg hk hn ⟨lineN rfl, ?_⟩
    exact hK
  refine seq_to (S (some (.d (.lst ([(w3 g k l).1, (w3 g k l).2.1, (w3 g k l).2.2].map .int)))) none) (fun K hK => ?_) ?_
  · refine ⟨trivial, ifd (fun z => ?_) fun z => ?_⟩
    · refine dlc_map Dt.int (fun x => Dt.int (-x)) (xs := [dt k l, dt l g, dt g k]) (fun K2 h2 => ?_) (fun x hx C hC => ?_) (Nat.le_of_ble_eq_true rfl) ?_
      · exact h2
      · exact hC _
      · have e : w3 g k l = (-dt k l, -dt l g, -dt g k) := by unfold w3; rw [if_pos z]
        rw [e] at hK
        exact hK
    · have e : w3 g k l = (dt k l, dt l g, dt g k) := by unfold w3; rw [if_neg z]
      rw [e] at hK
      exact hK
  unfold triW at h
  generalize (w3 g k l).1 = x at *
  generalize (w3 g k l).2.1 = y at *
  generalize (w3 g k l).2.2 = z at *
  by_cases c : x ≤ 0 ∨ y ≤ 0 ∨ z ≤ 0
  · rw [if_pos c] at h
    refine ifs_t (S (some (.d (.lst ([x, y, z].map .int)))) none) (fun K hK => ?_) ?_
    · refine gx_any Dt.int (fun a => decide (a ≤ 0)) (xs := [x, y, z]) (fun a ha C hC => ?_) ?_
      · exact ⟨trivial, hC _⟩
      · have e : [x, y, z].any (fun a => decide (a ≤ 0)) = true := by
          simp only [List.any_cons, List.any_nil, Bool.or_eq_true, decide_eq_true_eq]
          rcases c with c | c | c
          · exact .inl c
          · exact .inr (.inl c)
          · exact .inr (.inr (.inl c))
        rw [e]
        exact hK
    · exact tk h
  · rw [if_neg c] at h
    refine guard_st (S (some (.d (.lst ([x, y, z].map .int)))) none) (fun K hK => ?_) ?_
    · refine gx_any Dt.int (fun a => decide (a ≤ 0)) (xs := [x, y, z]) (fun a ha C hC => ?_) ?_
      · exact ⟨trivial, hC _⟩
      · have e : [x, y, z].any (fun a => decide (a ≤ 0)) = false := by
          simp only [List.any_cons, List.any_nil, Bool.or_false, Bool.or_eq_false_iff, decide_eq_false_iff_not]
          exact ⟨fun a => c (.inl a), fun a => c (.inr (.inl a)), fun a => c (.inr (.inr a))⟩
        rw [e]
        exact hK
    have dpos : gcd3 x y z ≠ 0 := by
      have hd : Int.gcd (Int.gcd x y : Int) z ≠ 0 := fun e => by
        have := (Int.gcd_eq_zero_iff.mp e).2
        have : ¬ z ≤ 0 := fun a => c (.inr (.inr a))
        omega
      unfold gcd3
      omega
    have dpos2 : 0 < gcd3 x y z := by unfold gcd3 at *; omega
    refine seq_to (S (some (.d (.lst ([x, y, z].map .int)))) (some (.d (.int (gcd3 x y z))))) (fun K hK => ?_) ?_
    · refine gcd_ok ?_
      refine gcd_ok ?_
      exact hK
    unfold dRet dBi
    refine dlc_map Dt.int (fun a => Dt.int (a.fdiv (gcd3 x y z))) (xs := [x, y, z]) (fun K2 h2 => ?_) (fun x hx C hC => ?_) (Nat.le_of_ble_eq_true rfl) ?_
    · exact h2
    · exact ⟨dpos, hC _⟩
    · show Q (.d (.tup [.int (x.fdiv (gcd3 x y z)), .int (y.fdiv (gcd3 x y z)), .int (z.fdiv (gcd3 x y z))])) (st.take st.length)
      rw [fdiv_pos dpos2, fdiv_pos dpos2, fdiv_pos dpos2]
      exact tk h
end
end PG

set_option maxRecDepth 100000
set_option maxHeartbeats 4000000
namespace PG
open PySem PySem.Spec PyProof.Rows L2 RT
theorem range_app {β : Type} {i : Nat} {b : DS} {all : List Dt} {E : DEnds} (P : List β → M → Prop) (F : Nat → List β) {hi L : Nat}
    (hs : ∀ (k : Nat) (acc : List β) (m : M) (K : M → Prop), k < hi → acc.length + (F k).length ≤ L → P acc m → (∀ m', P (acc ++ F k) m' → K m') → b ⟨K, E.rt, E.nx, K⟩ ⟨m.sl.set i (some (.d (.int k))), m.st⟩) :
    ∀ (n k : Nat) (acc : List β) (m : M), k + n = hi → (acc ++ (List.range' k n).flatMap F).length ≤ L → P acc m → (∀ m', P (acc ++ (List.range' k n).flatMap F) m' → E.nx m') → dLoop (.nm i) b all none E (rangeD k n) m
  | 0, k, acc, m, _, _, p, h => ⟨trivial, h m (by simpa using p)⟩
  | n + 1, k, acc, m, hk, hL, p, h => ⟨trivial, by
    have e : acc ++ (List.range' k (n + 1)).flatMap F = (acc ++ F k) ++ (List.range' (k + 1) n).flatMap F := by
      rw [List.range'_succ, List.flatMap_cons, List.append_assoc]
    rw [e] at hL h
    refine hs k acc m _ (by omega) (by rw [List.length_append, List.length_append] at hL; omega) p fun m' p' => ?_
    have := range_app P F (i := i) (b := b) (all := all) (E := E) hs n (k + 1) (acc ++ F k) m' (by omega) hL p' h
    exact this⟩
theorem flatMap_len {α β : Type} {f : α → List β} {c : Nat} : ∀ {l : List α}, (∀ x ∈ l, (f x).length ≤ c) → (l.flatMap f).length ≤ l.length * c
  | [], _ => by simp
  | a :: l, h => by
    rw [List.flatMap_cons, List.length_append, List.length_cons, Nat.succ_mul]
    have h1 := h a List.mem_cons_self
    have h2 := flatMap_len (f := f) (c := c) (l := l) fun x hx => h x (List.mem_cons_of_mem _ hx)
    omega

def hAt (hs : List Hp3) (i : Nat) : Hp3 := hs.getD i ⟨1, 0, 0⟩
abbrev OSet := List Nat × Option (List Int)
def pr2 (hs : List Hp3) (i j : Nat) : OSet := ([i, j], (oppW (hAt hs i) (hAt hs j)).map fun w => [w.1, w.2])
def pr3 (hs : List Hp3) (i j k : Nat) : OSet := ([i, j, k], (triW (hAt hs i) (hAt hs j) (hAt hs k)).map fun w => [w.1, w.2.1, w.2.2])
def upTo (n k : Nat) : List Nat := List.range' (k + 1) (n - (k + 1))
def allP (hs : List Hp3) : List OSet := (List.range' 0 hs.length).flatMap fun i => (upTo hs.length i).flatMap fun j => [pr2 hs i j]
def allT (hs : List Hp3) : List OSet := (List.range' 0 hs.length).flatMap fun i => (upTo hs.length i).flatMap fun j => (upTo hs.length j).flatMap fun k => [pr3 hs i j k]
def osets (hs : List Hp3) : List (List Nat × List Int) := (allP hs ++ allT hs).filterMap fun s => s.2.map fun w => (s.1, w)
def ixD (ix : List Nat) : Dt := .tup (ix.map fun i : Nat => Dt.int (i : Int))
def wsD (ws : List Int) : Dt := .tup (ws.map .int)
def owD : Option (List Int) → Dt
  | none => .non
  | some w => wsD w
def osD (s : OSet) : Dt := .tup [ixD s.1, owD s.2]
def oD (s : List Nat × List Int) : Dt := .tup [ixD s.1, wsD s.2]
theorem upTo_len (n k : Nat) : (upTo n k).length ≤ n := by
  unfold upTo
  rw [List.length_range']
  omega
theorem allP_len (hs : List Hp3) : (allP hs).length ≤ hs.length * hs.length := by
  refine Nat.le_trans (flatMap_len (c := hs.length) fun i _ => ?_) (by rw [List.length_range']; exact Nat.le_refl _)
  refine Nat.le_trans (flatMap_len (c := 1) fun j _ => Nat.le_refl _) ?_
  have := upTo_len hs.length i
  omega
theorem allT_len (hs : List Hp3) : (allT hs).length ≤ hs.length * (hs.length * hs.length) := by
  refine Nat.le_trans (flatMap_len (c := hs.length * hs.length) fun i _ => ?_) (by rw [List.length_range']; exact Nat.le_refl _)
  refine Nat.le_trans (flatMap_len (c := hs.length) fun j _ => ?_) (Nat.mul_le_mul_right _ (upTo_len hs.length i))
  refine Nat.le_trans (flatMap_len (c := 1) fun k _ => Nat.le_refl _) ?_
  have := upTo_len hs.length j
  omega
theorem hAt_get {hs : List Hp3} {i : Nat} (h : i < hs.length) : hs[i]? = some (hAt hs i) := by
  unfold hAt
  rw [List.getD_eq_getElem?_getD, List.getElem?_eq_getElem h]
  rfl
theorem hAt_mem {hs : List Hp3} {i : Nat} (h : i < hs.length) : hAt hs i ∈ hs := List.mem_of_getElem? (hAt_get h)
theorem ow2_eq (o : Option (Int × Int)) : ow2D o = owD (o.map fun w => [w.1, w.2]) := by
  cases o <;> rfl
theorem ow3_eq (o : Option (Int × Int × Int)) : ow3D o = owD (o.map fun w => [w.1, w.2.1, w.2.2]) := by
  cases o <;> rfl
theorem opt_map : ∀ l : List OSet, (l.filter fun s => s.2.isSome).map osD = (l.filterMap fun s => s.2.map fun w => (s.1, w)).map oD
  | [] => rfl
  | (ix, none) :: l => opt_map l
  | (ix, some w) :: l => congrArg (osD (ix, some w) :: ·) (opt_map l)
theorem filt_own {α : Type} {f : α → Dt} {p : α → Bool} {sl slw : List (Option Vl)} {i : Nat} {lk : Option Nat} {tt : DT} {all : List Dt} {st : List Cell} {K : List Dt → M → Prop} (hlk : lockOk lk all ⟨sl, st⟩) (hi : i < slw.length)
    (ht : ∀ (a : α) (P : Bool → M → Prop), P (p a) ⟨slw.set i (some (.d (f a))), st⟩ → tt ⟨slw.set i (some (.d (f a))), st⟩ P) :
    ∀ (xs acc : List α), acc.length + xs.length ≤ 1000000 → K ((acc ++ xs.filter p).map f) ⟨sl, st⟩ → dLcGo sl slw (.nm i) tt (dVar i) all lk K (xs.map f) (acc.map f) st
  | [], acc, _, h => ⟨hlk, by rw [List.filter_nil, List.append_nil] at h; exact h⟩
  | x :: xs, acc, hl, h => by
    rw [List.length_cons] at hl
    have hlk' := hlk
    refine ⟨hlk', ht x _ ?_⟩
    have hv : (slw.set i (some (.d (f x))))[i]? = some (some (.d (f x))) := by simp [hi]
    cases hp : p x with
    | true =>
      rw [if_pos rfl]
      unfold dVar
      simp only [hv]
      refine ⟨by rw [List.length_map]; exact small_lt (by omega), ?_⟩
      have := filt_own (all := all) (K := K) hlk hi ht xs (acc ++ [x]) (by rw [List.length_append, List.length_singleton]; omega) (by rw [List.append_assoc]; rw [List.filter_cons, if_pos hp] at h; exact h)
      rw [List.map_append] at this
      exact this
    | false =>
      exact filt_own (K := K) hlk hi ht xs acc (by omega) (by rw [List.filter_cons, if_neg (by rw [hp]; decide)] at h; exact h)
section
variable {st : List Cell} {Q : Vl → List Cell → Prop} {hs : List Hp3} {n : Nat}
theorem osets_ok (hg : ∀ g ∈ hs, HZ n g) (hn : n ≤ 10000000) (hl : hs.length ≤ 45) (h : Q (.d (.lst ((osets hs).map oD))) st) : sp_opposing_sets [.d (.lst (hs.map hpD))] st Q := by
  unfold sp_opposing_sets
  refine ⟨rfl, ?_⟩
  let S : Option Vl → Option Vl → Option Vl → List OSet → M := fun z3 z4 z5 acc => ⟨[some (.d (.lst (hs.map hpD))), some (.d (.int hs.length)), some (.c st.length), z3, z4, z5, none], st ++ [Cell.lst (acc.map osD)]⟩
  have hP : (allP hs).length ≤ 2025 := Nat.le_trans (allP_len hs) (Nat.mul_le_mul hl hl)
  have hT : (allT hs).length ≤ 91125 := Nat.le_trans (allT_len hs) (Nat.mul_le_mul hl (Nat.mul_le_mul hl hl))
  refine seq_to ⟨[some (.d (.lst (hs.map hpD))), some (.d (.int hs.length)), none, none, none, none, none], st⟩ (fun K hK => ?_) ?_
  · show K ⟨[_, some (.d (.int ((hs.map hpD).length : Int))), none, none, none, none, none], st⟩
    rw [List.length_map]
    exact hK
  refine seq_to (S none none none []) (fun K hK => ⟨lineN rfl, hK⟩) ?_
  have sm : ∀ a b : Nat, a ≤ 100 → b ≤ 100 → small62 (a : Int) ∧ small62 (b : Int) := fun a b ha hb => ⟨⟨by omega, by omega⟩, ⟨by omega, by omega⟩⟩
  have at_ : ∀ i, i < hs.length → atI (hs.map hpD) (i : Int) = some (hpD (hAt hs i)) := fun i hi => atI_map (f := hpD) (hAt_get hi)
  have rg : ∀ k : Nat, k < hs.length → rangeD (((k : Nat) : Int) + 1) (((hs.length : Nat) : Int) - (((k : Nat) : Int) + 1)).toNat = rangeD ((k + 1 : Nat) : Int) (hs.length - (k + 1)) := fun k hk => by
    congr 1
    omega
  refine seq_mid (fun m => ∃ z3 z4, m = S z3 z4 none (allP hs)) (fun K hK => ?_) ?_
  · refine ⟨(sm hs.length hs.length (by omega) (by omega)).1, ?_⟩
    refine range_app (fun acc m => ∃ z3 z4, m = S z3 z4 none acc) (fun i => (upTo hs.length i).flatMap fun j => [pr2 hs i j]) (hi := hs.length) (L := 2025) ?_ hs.length 0 [] _ (by omega) hP ⟨none, none, rfl⟩ (fun m' p' => hK m' p')
    rintro i acc _ K2 hi hL ⟨z3, z4, rfl⟩ hK2
    refine ⟨sm (i + 1) hs.length (by omega) (by omega), ?_⟩
    show dLoop (.nm 4) _ _ none _ (rangeD (((i : Nat) : Int) + 1) (((hs.length : Nat) : Int) - (((i : Nat) : Int) + 1)).toNat) _
    rw [rg i hi]
    refine range_app (fun acc m => ∃ z4, m = S (some (.d (.int i))) z4 none acc) (fun j => [pr2 hs i j]) (hi := hs.length) (L := 2025) ?_ _ (i + 1) acc _ (by omega) (by rw [List.length_append]; exact hL) ⟨z4, rfl⟩ (fun m' ⟨z4', p'⟩ => hK2 m' ⟨_, _, p'⟩)
    rintro j acc _ K3 hj hL ⟨z4, rfl⟩ hK3
    refine append_st (k := st.length) (xs := acc.map osD) (osD (pr2 hs i j)) ?_ ?_ (fun C hC => ?_) (small_lt (by rw [List.length_map]; omega)) ?_
    · rfl
    · exact getElem_last _ _
    · refine ⟨lineN rfl, ?_⟩
      refine rIx_mk (at_ i hi) ?_
      refine rIx_mk (at_ j hj) ?_
      refine oppw_ok (hg _ (hAt_mem hi)) (hg _ (hAt_mem hj)) hn ⟨lineN rfl, ?_⟩
      rw [ow2_eq]
      exact hC
    · refine hK3 _ ⟨some (.d (.int j)), congrArg (M.mk _) ?_⟩
      show (st ++ [_]).set st.length _ = st ++ [_]
      rw [set_last, List.map_append]
      rfl
  rintro _ ⟨z3, z4, rfl⟩
  refine seq_mid (fun m => ∃ z3 z4 z5, m = S z3 z4 z5 (allP hs ++ allT hs)) (fun K hK => ?_) ?_
  · refine ⟨(sm hs.length hs.length (by omega) (by omega)).1, ?_⟩
    refine range_app (fun acc m => ∃ z3 z4 z5, m = S z3 z4 z5 acc) (fun i => (upTo hs.length i).flatMap fun j => (upTo hs.length j).flatMap fun k => [pr3 hs i j k]) (hi := hs.length) (L := 93150) ?_ hs.length 0 (allP hs) _ (by omega) (by rw [List.length_append]; exact Nat.le_trans (Nat.add_le_add hP hT) (by decide)) ⟨_, _, none, rfl⟩ (fun m' p' => hK m' p')
    rintro i acc _ K2 hi hL ⟨z3, z4, z5, rfl⟩ hK2
    refine ⟨sm (i + 1) hs.length (by omega) (by omega), ?_⟩
    show dLoop (.nm 4) _ _ none _ (rangeD (((i : Nat) : Int) + 1) (((hs.length : Nat) : Int) - (((i : Nat) : Int) + 1)).toNat) _
    rw [rg i hi]
    refine range_app (fun acc m => ∃ z4 z5, m = S (some (.d (.int i))) z4 z5 acc) (fun j => (upTo hs.length j).flatMap fun k => [pr3 hs i j k]) (hi := hs.length) (L := 93150) ?_ _ (i + 1) acc _ (by omega) (by rw [List.length_append]; exact hL) ⟨z4, z5, rfl⟩ (fun m' ⟨z4', z5', p'⟩ => hK2 m' ⟨_, _, _, p'⟩)
    rintro j acc _ K3 hj hL ⟨z4, z5, rfl⟩ hK3
    refine ⟨sm (j + 1) hs.length (by omega) (by omega), ?_⟩
    show dLoop (.nm 5) _ _ none _ (rangeD (((j : Nat) : Int) + 1) (((hs.length : Nat) : Int) - (((j : Nat) : Int) + 1)).toNat) _
    rw [rg j hj]
    refine range_app (fun acc m => ∃ z5, m = S (some (.d (.int i))) (some (.d (.int j))) z5 acc) (fun k => [pr3 hs i j k]) (hi := hs.length) (L := 93150) ?_ _ (j + 1) acc _ (by omega) (by rw [List.length_append]; exact hL) ⟨z5, rfl⟩ (fun m' ⟨z5', p'⟩ => hK3 m' ⟨_, _, p'⟩)
    rintro k acc _ K4 hk hL ⟨z5, rfl⟩ hK4
    refine append_st (k := st.length) (xs := acc.map osD) (osD (pr3 hs i j k)) ?_ ?_ (fun C hC => ?_) (small_lt (by rw [List.length_map]; omega)) ?_
    · rfl
    · exact getElem_last _ _
    · refine ⟨lineN rfl, ?_⟩
      refine rIx_mk (at_ i hi) ?_
      refine rIx_mk (at_ j hj) ?_
      refine rIx_mk (at_ k hk) ?_
      refine triw_ok (hg _ (hAt_mem hi)) (hg _ (hAt_mem hj)) (hg _ (hAt_mem hk)) hn ⟨lineN rfl, ?_⟩
      rw [ow3_eq]
      exact hC
    · refine hK4 _ ⟨some (.d (.int k)), congrArg (M.mk _) ?_⟩
      show (st ++ [_]).set st.length _ = st ++ [_]
      rw [set_last, List.map_append]
      rfl
  rintro _ ⟨z3, z4, z5, rfl⟩
  show onC (st ++ [Cell.lst ((allP hs ++ allT hs).map osD)]) st.length _
  refine onC_mk (getElem_last _ _) ?_
  refine filt_own (f := osD) (p := fun s => s.2.isSome) (i := 6) ?_ ?_ (fun s P hP => ?_) (allP hs ++ allT hs) [] ?_ ?_
  · exact getElem_last _ _
  · exact Nat.lt_of_sub_eq_succ rfl
  · obtain ⟨ix, o⟩ := s
    cases o <;> exact hP
  · rw [List.length_append, List.length_nil]
    omega
  · rw [List.nil_append, opt_map]
    show Q (.d (.lst _)) ((st ++ [_]).take st.length)
    rw [List.take_left]
    exact h
end
end PG

set_option maxRecDepth 100000
set_option maxHeartbeats 4000000
namespace PG
open PySem PySem.Spec PyProof.Rows L2 RT
def numOf (hs : List Hp3) (s : List Nat × List Int) : Int := ((s.1.zip s.2).map fun p => (hAt hs p.1).r * p.2).sum
def emptyB (hs : List Hp3) : Bool := (osets hs).any fun s => decide (numOf hs s < 0)
theorem mem_upTo {n k j : Nat} : j ∈ upTo n k ↔ k < j ∧ j < n := by
  unfold upTo
  rw [List.mem_range'_1]
  omega
inductive OS (hs : List Hp3) : List Nat × List Int → Prop where
  | two (i j : Nat) (a b : Int) (h1 : i < j) (h2 : j < hs.length) (h : oppW (hAt hs i) (hAt hs j) = some (a, b)) : OS hs ([i, j], [a, b])
  | three (i j k : Nat) (a b c : Int) (h1 : i < j) (h2 : j < k) (h3 : k < hs.length) (h : triW (hAt hs i) (hAt hs j) (hAt hs k) = some (a, b, c)) : OS hs ([i, j, k], [a, b, c])
theorem mem_osets {hs : List Hp3} {s : List Nat × List Int} : s ∈ osets hs ↔ OS hs s := by
  unfold osets
  rw [List.mem_filterMap]
  constructor
  · rintro ⟨⟨ix, o⟩, hm, e⟩
    rcases List.mem_append.mp hm with h | h
    · obtain ⟨i, hi, h⟩ := List.mem_flatMap.mp h
      obtain ⟨j, hj, h⟩ := List.mem_flatMap.mp h
      have hj := mem_upTo.mp hj
      cases List.mem_singleton.mp h
      cases hw : oppW (hAt hs i) (hAt hs j) with
      | none =>
        simp [hw] at e
      | some w =>
        simp [hw] at e
        subst e
        exact .two i j w.1 w.2 hj.1 hj.2 hw
    · obtain ⟨i, hi, h⟩ := List.mem_flatMap.mp h
      obtain ⟨j, hj, h⟩ := List.mem_flatMap.mp h
      obtain ⟨k, hk, h⟩ := List.mem_flatMap.mp h
      have hj := mem_upTo.mp hj
      have hk := mem_upTo.mp hk
      cases List.mem_singleton.mp h
      cases hw : triW (hAt hs i) (hAt hs j) (hAt hs k) with
      | none =>
        simp [hw] at e
      | some w =>
        simp [hw] at e
        subst e
        exact .three i j k w.1 w.2.1 w.2.2 hj.1 hk.1 hk.2 hw
  · intro h
    cases h with
    | two i j a b h1 h2 h =>
      refine ⟨pr2 hs i j, List.mem_append_left _ (List.mem_flatMap.mpr ⟨i, by rw [List.mem_range'_1]; omega, List.mem_flatMap.mpr ⟨j, mem_upTo.mpr ⟨h1, h2⟩, List.mem_singleton.mpr rfl⟩⟩), ?_⟩
      unfold pr2
      rw [h]
      rfl
    | three i j k a b c h1 h2 h3 h =>
      refine ⟨pr3 hs i j k, List.mem_append_right _ (List.mem_flatMap.mpr ⟨i, by rw [List.mem_range'_1]; omega, List.mem_flatMap.mpr ⟨j, mem_upTo.mpr ⟨h1, by omega⟩, List.mem_flatMap.mpr ⟨k, mem_upTo.mpr ⟨h2, h3⟩, List.mem_singleton.mpr rfl⟩⟩⟩), ?_⟩
      unfold pr3
      rw [h]
      rfl
theorem num2 (hs : List Hp3) (i j : Nat) (a b : Int) : numOf hs ([i, j], [a, b]) = (hAt hs i).r * a + (hAt hs j).r * b := by
  show (hAt hs i).r * a + ((hAt hs j).r * b + 0) = _
  omega
theorem num3 (hs : List Hp3) (i j k : Nat) (a b c : Int) : numOf hs ([i, j, k], [a, b, c]) = (hAt hs i).r * a + (hAt hs j).r * b + (hAt hs k).r * c := by
  show (hAt hs i).r * a + ((hAt hs j).r * b + ((hAt hs k).r * c + 0)) = _
  omega
theorem cast_neg {z : Int} (h : z < 0) : (z : Rat) < 0 := Rat.intCast_neg_iff.mpr h
theorem cast_pos {z : Int} (h : 0 < z) : (0 : Rat) < (z : Rat) := Rat.intCast_pos.mpr h
theorem os_neg {hs : List Hp3} {s : List Nat × List Int} (h : OS hs s) (hn : numOf hs s < 0) (x : Ray) : ¬ Rg hs x := fun hx => by
  have hn' := cast_neg hn
  cases h with
  | two i j a b h1 h2 h =>
    obtain ⟨_, _, pa, pb, _⟩ := oppW_some h
    obtain ⟨e1, e2⟩ := oppW_dep h
    rw [num2, Rat.intCast_add, castI, castI] at hn'
    have a1 := mul_le (hx _ (hAt_mem (show i < hs.length by omega))) (Rat.le_of_lt (cast_pos pa))
    have a2 := mul_le (hx _ (hAt_mem (show j < hs.length by omega))) (Rat.le_of_lt (cast_pos pb))
    unfold valH at a1 a2
    generalize (a : Rat) = a at *
    generalize (b : Rat) = b at *
    have e3 : a * (((hAt hs i).p : Rat) * x.1 + ((hAt hs i).q : Rat) * x.2) + b * (((hAt hs j).p : Rat) * x.1 + ((hAt hs j).q : Rat) * x.2) = 0 := by
      have : a * (((hAt hs i).p : Rat) * x.1 + ((hAt hs i).q : Rat) * x.2) + b * (((hAt hs j).p : Rat) * x.1 + ((hAt hs j).q : Rat) * x.2) = (a * ((hAt hs i).p : Rat) + b * ((hAt hs j).p : Rat)) * x.1 + (a * ((hAt hs i).q : Rat) + b * ((hAt hs j).q : Rat)) * x.2 := by grind
      rw [this, e1, e2]
      grind
    grind
  | three i j k a b c h1 h2 h3 h =>
    obtain ⟨pa, pb, pc, _⟩ := triW_some h
    obtain ⟨e1, e2⟩ := triW_dep h
    rw [num3, Rat.intCast_add, Rat.intCast_add, castI, castI, castI] at hn'
    have a1 := mul_le (hx _ (hAt_mem (show i < hs.length by omega))) (Rat.le_of_lt (cast_pos pa))
    have a2 := mul_le (hx _ (hAt_mem (show j < hs.length by omega))) (Rat.le_of_lt (cast_pos pb))
    have a3 := mul_le (hx _ (hAt_mem (show k < hs.length by omega))) (Rat.le_of_lt (cast_pos pc))
    unfold valH at a1 a2 a3
    generalize (a : Rat) = a at *
    generalize (b : Rat) = b at *
    generalize (c : Rat) = c at *
    have e3 : a * (((hAt hs i).p : Rat) * x.1 + ((hAt hs i).q : Rat) * x.2) + b * (((hAt hs j).p : Rat) * x.1 + ((hAt hs j).q : Rat) * x.2) + c * (((hAt hs k).p : Rat) * x.1 + ((hAt hs k).q : Rat) * x.2) = 0 := by
      have : a * (((hAt hs i).p : Rat) * x.1 + ((hAt hs i).q : Rat) * x.2) + b * (((hAt hs j).p : Rat) * x.1 + ((hAt hs j).q : Rat) * x.2) + c * (((hAt hs k).p : Rat) * x.1 + ((hAt hs k).q : Rat) * x.2) = (a * ((hAt hs i).p : Rat) + b * ((hAt hs j).p : Rat) + c * ((hAt hs k).p : Rat)) * x.1 + (a * ((hAt hs i).q : Rat) + b * ((hAt hs j).q : Rat) + c * ((hAt hs k).q : Rat)) * x.2 := by grind
      rw [this, e1, e2]
      grind
    grind

theorem C2.symm {g k : Hp3} : C2 g k → C2 k g := fun ⟨t, ht, e1, e2, dg, hn⟩ => by
  have ti : 0 < 1 / t := by
    rw [Rat.div_def]
    exact Rat.mul_pos (by decide) (Rat.inv_pos.mpr ht)
  refine ⟨1 / t, ti, by grind, by grind, fun ⟨a, b⟩ => ?_, ?_⟩
  · rw [a] at e1
    rw [b] at e2
    have z : ((0 : Int) : Rat) = 0 := rfl
    refine dg ⟨Rat.intCast_eq_zero_iff.mp ?_, Rat.intCast_eq_zero_iff.mp ?_⟩
    · grind
    · grind
  · have w := mul_lt ti hn
    have : 1 / t * (t * (g.r : Rat) + (k.r : Rat)) = (g.r : Rat) + 1 / t * (k.r : Rat) := by grind
    rw [this] at w
    grind
where
  mul_lt {t a : Rat} (ht : 0 < t) (h : a < 0) : t * a < 0 := by
    have := Rat.mul_pos ht (show 0 < -a by grind)
    grind
theorem C2.opp {g k : Hp3} (h : C2 g k) : ∃ a b, oppW g k = some (a, b) ∧ (g.r * a + k.r * b : Int) < 0 := by
  obtain ⟨t, ht, e1, e2, dg, hn⟩ := h
  have z : ((0 : Int) : Rat) = 0 := rfl
  have h0 : dt g k = 0 := Rat.intCast_inj.mp (by rw [dt_cast, e1, e2, z]; grind)
  have hpos := dg.pos
  have h1 : dotI g k < 0 := Rat.intCast_neg_iff.mp (by
    have : (dotI g k : Rat) = -(t * (dotI g g : Rat)) := by
      rw [dot_cast, dot_cast, e1, e2]
      grind
    rw [this]
    have := Rat.mul_pos ht hpos
    grind)
  have hw : ∃ w, oppW g k = some w := by
    unfold oppW
    rw [if_neg (by omega)]
    exact ⟨_, rfl⟩
  obtain ⟨⟨a, b⟩, hw⟩ := hw
  obtain ⟨_, _, pa, pb, d, hd, ea, eb⟩ := oppW_some hw
  have en := opp_n1 ht e1 e2
  rw [← ea, ← eb, castI, castI] at en
  have hd' := cast_pos hd
  have pb' := cast_pos pb
  refine ⟨a, b, hw, Rat.intCast_neg_iff.mp ?_⟩
  rw [Rat.intCast_add, castI, castI]
  have eab : (a : Rat) = t * (b : Rat) := mul_cancel_r (show (d : Rat) ≠ 0 by grind) (by grind)
  rw [eab]
  have w := C2.symm.mul_lt pb' hn
  grind
theorem C3.perm1 {g k l : Hp3} : C3 g k l → C3 k g l := fun ⟨a, b, c, pa, pb, pc, e1, e2, hn, nd⟩ => ⟨b, a, c, pb, pa, pc, by grind, by grind, by grind, by rw [dt_swap]; omega⟩
theorem C3.nd {g k l : Hp3} : C3 g k l → dt k l ≠ 0 := fun ⟨a, b, c, pa, pb, pc, e1, e2, hn, nd⟩ z => by
  have h1 := dt_cast g k
  have h2 := dt_cast k l
  rw [z] at h2
  have z0 : ((0 : Int) : Rat) = 0 := rfl
  have nd' : (dt g k : Rat) ≠ 0 := fun y => nd (Rat.intCast_eq_zero_iff.mp y)
  rw [h1] at nd'
  -- cross with k: a dt(g, k) = c dt(k, l)
  have : a * ((g.p : Rat) * (k.q : Rat) - (g.q : Rat) * (k.p : Rat)) = 0 := by grind
  grind
theorem C3.perm2 {g k l : Hp3} (h : C3 g k l) : C3 k l g := by
  have nd := h.nd
  obtain ⟨a, b, c, pa, pb, pc, e1, e2, hn, _⟩ := h
  exact ⟨b, c, a, pb, pc, pa, by grind, by grind, by grind, nd⟩
theorem C3.tri {g k l : Hp3} (h : C3 g k l) : ∃ a b c, triW g k l = some (a, b, c) ∧ (g.r * a + k.r * b + l.r * c : Int) < 0 := by
  have nkl := h.nd
  have nlg := h.perm2.nd
  obtain ⟨a, b, c, pa, pb, pc, e1, e2, hn, nd⟩ := h
  have h1 := dt_cast g k
  have h2 := dt_cast k l
  have h3 := dt_cast l g
  -- the weights go with the determinants
  have f1 : b * (dt k l : Rat) = a * (dt l g : Rat) := by rw [h2, h3]; grind
  have f2 : c * (dt k l : Rat) = a * (dt g k : Rat) := by rw [h1, h2]; grind
  have nkl' : (dt k l : Rat) ≠ 0 := fun y => nkl (Rat.intCast_eq_zero_iff.mp y)
  have fb : (dt l g : Rat) = b / a * (dt k l : Rat) := by grind
  have fc : (dt g k : Rat) = c / a * (dt k l : Rat) := by grind
  have pb' : 0 < b / a := by
    rw [Rat.div_def]
    exact Rat.mul_pos pb (Rat.inv_pos.mpr pa)
  have pc' : 0 < c / a := by
    rw [Rat.div_def]
    exact Rat.mul_pos pc (Rat.inv_pos.mpr pa)
  have hw : ∃ w, triW g k l = some w := by
    unfold triW
    rw [if_neg ?_]
    · exact ⟨_, rfl⟩
    · unfold w3
      by_cases s : dt k l < 0
      · rw [if_pos s]
        have s' := cast_neg s
        have u1 := Rat.mul_pos pb' (show 0 < -(dt k l : Rat) by grind)
        have u2 := Rat.mul_pos pc' (show 0 < -(dt k l : Rat) by grind)
        have v1 : dt l g < 0 := Rat.intCast_neg_iff.mp (by rw [fb]; grind)
        have v2 : dt g k < 0 := Rat.intCast_neg_iff.mp (by rw [fc]; grind)
        dsimp only
        omega
      · rw [if_neg s]
        have s2 : 0 < dt k l := by omega
        have s' := cast_pos s2
        have v1 : 0 < dt l g := Rat.intCast_pos.mp (by rw [fb]; exact Rat.mul_pos pb' s')
        have v2 : 0 < dt g k := Rat.intCast_pos.mp (by rw [fc]; exact Rat.mul_pos pc' s')
        dsimp only
        omega
  obtain ⟨⟨x, y, z⟩, hw⟩ := hw
  obtain ⟨px, py, pz, d, hd, ex, ey, ez⟩ := triW_some hw
  refine ⟨x, y, z, hw, Rat.intCast_neg_iff.mp ?_⟩
  have gx : (x : Rat) * (d : Rat) = (dt k l : Rat) := by rw [← castI, ex]
  have gy : (y : Rat) * (d : Rat) = (dt l g : Rat) := by rw [← castI, ey]
  have gz : (z : Rat) * (d : Rat) = (dt g k : Rat) := by rw [← castI, ez]
  have hd' : (d : Rat) ≠ 0 := fun y => hd (Rat.intCast_eq_zero_iff.mp y)
  have px' := cast_pos px
  have hy : (y : Rat) = b / a * (x : Rat) := mul_cancel_r hd' (by rw [gy, fb, ← gx]; grind)
  have hz : (z : Rat) = c / a * (x : Rat) := mul_cancel_r hd' (by rw [gz, fc, ← gx]; grind)
  rw [Rat.intCast_add, Rat.intCast_add, castI, castI, castI, hy, hz]
  have w := C2.symm.mul_lt (Rat.mul_pos px' (show 0 < 1 / a by rw [Rat.div_def]; exact Rat.mul_pos (by decide) (Rat.inv_pos.mpr pa))) hn
  have e : (x : Rat) * (1 / a) * (a * (g.r : Rat) + b * (k.r : Rat) + c * (l.r : Rat)) = (g.r : Rat) * (x : Rat) + (k.r : Rat) * (b / a * (x : Rat)) + (l.r : Rat) * (c / a * (x : Rat)) := by grind
  rw [← e]
  exact w
theorem mem_at {hs : List Hp3} {g : Hp3} (h : g ∈ hs) : ∃ i, i < hs.length ∧ hAt hs i = g := by
  obtain ⟨i, hi⟩ := List.getElem?_of_mem h
  have hl := (List.getElem?_eq_some_iff.mp hi).1
  exact ⟨i, hl, by rw [hAt_get hl] at hi; exact Option.some.inj hi⟩
theorem emptyB_iff {hs : List Hp3} (hd : ∀ g ∈ hs, Dir g) : emptyB hs = true ↔ ¬ ∃ x, Rg hs x := by
  unfold emptyB
  rw [List.any_eq_true]
  constructor
  · rintro ⟨s, hs', hn⟩ ⟨x, hx⟩
    exact os_neg (mem_osets.mp hs') (of_decide_eq_true hn) x hx
  · intro hno
    have two : ∀ i j, i < j → j < hs.length → C2 (hAt hs i) (hAt hs j) → ∃ s, s ∈ osets hs ∧ decide (numOf hs s < 0) = true := fun i j hij hj h => by
      obtain ⟨a, b, hw, hn⟩ := h.opp
      exact ⟨_, mem_osets.mpr (.two i j a b hij hj hw), decide_eq_true (by rw [num2]; exact hn)⟩
    have three : ∀ i j k, i < j → j < k → k < hs.length → C3 (hAt hs i) (hAt hs j) (hAt hs k) → ∃ s, s ∈ osets hs ∧ decide (numOf hs s < 0) = true := fun i j k hij hjk hk h => by
      obtain ⟨a, b, c, hw, hn⟩ := h.tri
      exact ⟨_, mem_osets.mpr (.three i j k a b c hij hjk hk hw), decide_eq_true (by rw [num3]; exact hn)⟩
    rcases helly hd with h | ⟨g, hg, k, hk, h⟩ | ⟨g, hg, k, hk, l, hl, h⟩
    · exact (hno h).elim
    · obtain ⟨i, hi, rfl⟩ := mem_at hg
      obtain ⟨j, hj, rfl⟩ := mem_at hk
      rcases Nat.lt_trichotomy i j with z | z | z
      · exact two i j z hj h
      · subst z
        obtain ⟨t, ht, e1, e2, dg, _⟩ := h
        have := dg.rat
        refine (this ⟨?_, ?_⟩).elim
        · have : (1 + t) * ((hAt hs i).p : Rat) = 0 := by grind
          exact (Rat.mul_eq_zero.mp this).resolve_left (by grind)
        · have : (1 + t) * ((hAt hs i).q : Rat) = 0 := by grind
          exact (Rat.mul_eq_zero.mp this).resolve_left (by grind)
      · exact two j i z hi h.symm
    · obtain ⟨i, hi, rfl⟩ := mem_at hg
      obtain ⟨j, hj, rfl⟩ := mem_at hk
      obtain ⟨k, hk', rfl⟩ := mem_at hl
      have dd : ∀ g : Hp3, dt g g = 0 := fun g => by unfold dt; grind
      have nij : i ≠ j := fun z => by
        obtain ⟨a, b, c, pa, pb, pc, e1, e2, hn, nd⟩ := h
        rw [z] at nd
        exact nd (dd _)
      have njk : j ≠ k := fun z => by
        have := h.nd
        rw [z] at this
        exact this (dd _)
      have nki : k ≠ i := fun z => by
        have := h.perm2.nd
        rw [z] at this
        exact this (dd _)
      rcases Nat.lt_or_gt_of_ne nij with a | a <;> rcases Nat.lt_or_gt_of_ne njk with b | b <;> rcases Nat.lt_or_gt_of_ne nki with c | c
      · omega
      · exact three i j k a b hk' h
      · exact three k i j c a hj h.perm2.perm2
      · exact three i k j c b hj h.perm2.perm2.perm1
      · exact three j k i b c hi h.perm2
      · exact three j i k a c hk' h.perm1
      · exact three k j i b a hi h.perm2.perm1
      · omega
end PG

set_option maxRecDepth 100000
set_option maxHeartbeats 4000000
namespace PG
open PySem PySem.Spec PyProof.Rows L2 RT
theorem zipD_map {α β : Type} (f : α → Dt) (g : β → Dt) : ∀ (xs : List α) (ys : List β), zipD (xs.map f) (ys.map g) = (xs.zip ys).map fun p => Dt.tup [f p.1, g p.2]
  | [], _ => by cases ‹List β› <;> rfl
  | _ :: _, [] => rfl
  | x :: xs, y :: ys => by
    rw [List.zip_cons_cons, List.map_cons, List.map_cons, List.map_cons, ← zipD_map f g xs ys]
    rfl
theorem sumI_map : ∀ xs : List Int, sumI (xs.map .int) = some xs.sum
  | [] => rfl
  | x :: xs => by
    rw [List.map_cons, List.sum_cons]
    show (sumI (xs.map .int)).map (x + ·) = _
    rw [sumI_map xs]
    rfl

theorem lgn1 {n : Nat} {g : Hp3} (h : HZ n g) : (n1 g).natAbs.log2 + 1 ≤ n := by
  unfold n1
  have := lga (a := ab g.p) (b := ab g.q) (n := n - 2) (by rw [ab_nat, Int.natAbs_natCast]; have := h.1; omega) (by rw [ab_nat, Int.natAbs_natCast]; have := h.2.1; omega)
  have := h.1
  omega
theorem lg_div {a d w : Int} (h : w * d = a) (hd : d ≠ 0) : w.natAbs.log2 ≤ a.natAbs.log2 := by
  refine log2_mono ?_
  rw [← h, Int.natAbs_mul]
  exact Nat.le_mul_of_pos_right _ (by omega)
theorem os_z {n : Nat} {hs : List Hp3} (hg : ∀ g ∈ hs, HZ n g) {s : List Nat × List Int} (h : OS hs s) : (∀ i ∈ s.1, i < hs.length) ∧ (∀ w ∈ s.2, w.natAbs.log2 + 2 ≤ 2 * n) ∧ s.1.length = s.2.length ∧ s.1.length ≤ 3 := by
  cases h with
  | two i j a b h1 h2 h =>
    obtain ⟨_, _, pa, pb, d, hd, ea, eb⟩ := oppW_some h
    have z1 := hg _ (hAt_mem (show i < hs.length by omega))
    have z2 := hg _ (hAt_mem h2)
    have w1 := lgn1 z1
    have w2 := lgn1 z2
    have u1 := lg_div ea (by omega)
    have u2 := lg_div eb (by omega)
    have := z1.1
    refine ⟨fun k hk => ?_, fun w hw => ?_, rfl, Nat.le_of_ble_eq_true rfl⟩
    · simp at hk
      omega
    · simp at hw
      rcases hw with rfl | rfl <;> omega
  | three i j k a b c h1 h2 h3 h =>
    obtain ⟨pa, pb, pc, d, hd, ea, eb, ec⟩ := triW_some h
    have z1 := hg _ (hAt_mem (show i < hs.length by omega))
    have z2 := hg _ (hAt_mem (show j < hs.length by omega))
    have z3 := hg _ (hAt_mem h3)
    have d1 := dt_z z2 z3
    have d2 := dt_z z3 z1
    have d3 := dt_z z1 z2
    have u1 := lg_div ea hd
    have u2 := lg_div eb hd
    have u3 := lg_div ec hd
    refine ⟨fun k hk => ?_, fun w hw => ?_, rfl, Nat.le_of_ble_eq_true rfl⟩
    · simp at hk
      omega
    · simp at hw
      rcases hw with rfl | rfl | rfl <;> omega
section
variable {st : List Cell} {Q : Vl → List Cell → Prop} {hs : List Hp3} {n : Nat}
theorem number_ok {s : List Nat × List Int} (hg : ∀ g ∈ hs, HZ n g) (hn : n ≤ 10000000) (h : OS hs s) (hq : Q (.d (.int (numOf hs s))) st) : sp_number_of [.d (.lst (hs.map hpD)), .d (ixD s.1), .d (wsD s.2)] st Q := by
  obtain ⟨z1, z2, z3, z4⟩ := os_z hg h
  unfold sp_number_of
  refine ⟨rfl, ?_⟩
  show dLcGo _ _ (.tp [3, 4]) dYes _ (zipD (s.1.map fun i : Nat => Dt.int (i : Int)) (s.2.map .int)) none _ (zipD (s.1.map fun i : Nat => Dt.int (i : Int)) (s.2.map .int)) [] _
  rw [zipD_map]
  refine lc_map (fun p : Nat × Int => Dt.tup [.int (p.1 : Int), .int p.2]) (fun p => Dt.int ((hAt hs p.1).r * p.2)) (done := []) (fun p hp C hC => ?_) ?_ ?_
  · obtain ⟨hp1, hp2⟩ := List.of_mem_zip hp
    have hi := z1 _ hp1
    refine ⟨rfl, ?_⟩
    refine rIx_mk (atI_map (f := hpD) (hAt_get hi)) ?_
    have y1 := (hg _ (hAt_mem hi)).2.2
    have y2 := z2 _ hp2
    exact ⟨mulok (zm (by omega)), hC _⟩
  · rw [List.length_nil, List.length_zip]
    omega
  · rw [List.nil_append]
    have e : (s.1.zip s.2).map (fun p => Dt.int ((hAt hs p.1).r * p.2)) = ((s.1.zip s.2).map fun p => (hAt hs p.1).r * p.2).map .int := by rw [List.map_map]; rfl
    rw [e]
    show match sumI (((s.1.zip s.2).map fun p => (hAt hs p.1).r * p.2).map .int) with | some n => _ | none => False
    rw [sumI_map]
    exact tk hq
theorem empty_ok (hg : ∀ g ∈ hs, HZ n g) (hn : n ≤ 10000000) (hl : hs.length ≤ 45) (h : Q (.d (.bl (emptyB hs))) st) : sp_is_empty [.d (.lst (hs.map hpD))] st Q := by
  unfold sp_is_empty
  refine ⟨rfl, osets_ok hg hn hl ?_⟩
  refine gx_any oD (fun s => decide (numOf hs s < 0)) (fun s hs' C hC => ?_) (tk h)
  exact ⟨rfl, number_ok hg hn (mem_osets.mp hs') ⟨trivial, hC _⟩⟩
end
end PG

set_option maxRecDepth 100000
set_option maxHeartbeats 4000000
namespace PG
open PySem PySem.Spec PyProof.Rows L2 RT
theorem zb0 : zb 0 = 2 := by decide +kernel
section
variable {st : List Cell} {Q : Vl → List Cell → Prop} {hs : List Hp3} {n : Nat}
end
end PG

set_option maxRecDepth 100000
set_option maxHeartbeats 4000000
namespace PG
open PySem PySem.Spec PyProof.Rows L2 RT

def projH (g : Hp3) : Ray := (Rat.divInt (g.r * g.p) (dotI g g), Rat.divInt (g.r * g.q) (dotI g g))
def meetR (g k : Hp3) : Option Ray := if dt g k = 0 then none else some (Rat.divInt (g.r * k.q - k.r * g.q) (dt g k), Rat.divInt (g.p * k.r - k.p * g.r) (dt g k))
def cands (hs : List Hp3) : List Ray := (0, 0) :: hs.flatMap fun g => projH g :: hs.filterMap (meetR g)
theorem divI {a b : Int} : Rat.divInt a b = (a : Rat) / (b : Rat) := Rat.divInt_eq_div ..
theorem meet_of {g k : Hp3} {x : Ray} (h : dt g k ≠ 0) (h1 : valH g x = g.r) (h2 : valH k x = k.r) : meetR g k = some x := by
  unfold meetR
  rw [if_neg h]
  have hd : (dt g k : Rat) ≠ 0 := fun y => h (Rat.intCast_eq_zero_iff.mp y)
  have e := dt_cast g k
  rw [divI, divI, Rat.intCast_sub, Rat.intCast_sub, castI, castI, castI, castI, ← h1, ← h2]
  unfold valH
  generalize (dt g k : Rat) = d at *
  obtain ⟨x1, x2⟩ := x
  dsimp only
  congr 1
  refine Prod.ext ?_ ?_
  · dsimp only
    rw [e]
    rw [e] at hd
    grind
  · dsimp only
    rw [e]
    rw [e] at hd
    grind
theorem meet_val {g k : Hp3} {x : Ray} (h : meetR g k = some x) : dt g k ≠ 0 ∧ valH g x = g.r ∧ valH k x = k.r := by
  unfold meetR at h
  by_cases h0 : dt g k = 0
  · rw [if_pos h0] at h
    cases h
  · rw [if_neg h0] at h
    have hd : (dt g k : Rat) ≠ 0 := fun y => h0 (Rat.intCast_eq_zero_iff.mp y)
    have e := dt_cast g k
    cases h
    unfold valH
    dsimp only
    rw [divI, divI, Rat.intCast_sub, Rat.intCast_sub, castI, castI, castI, castI]
    generalize (dt g k : Rat) = d at *
    exact ⟨h0, by grind, by grind⟩
theorem proj_val {g : Hp3} (h : Dir g) : valH g (projH g) = g.r := by
  have hd := h.pos
  have e := dot_cast g g
  unfold valH projH
  dsimp only
  rw [divI, divI, castI, castI]
  generalize (dotI g g : Rat) = d at *
  grind
def along (y z : Ray) (t : Rat) : Ray := (y.1 + t * (z.1 - y.1), y.2 + t * (z.2 - y.2))
theorem val_along (g : Hp3) (y z : Ray) (t : Rat) : valH g (along y z t) = valH g y + t * (valH g z - valH g y) := by
  unfold valH along
  dsimp only
  grind
theorem segment {hs : List Hp3} {y z : Ray} (hy : Rg hs y) : Rg hs z ∨ ∃ t, 0 ≤ t ∧ t < 1 ∧ Rg hs (along y z t) ∧ ∃ k ∈ hs, valH k (along y z t) = k.r ∧ (k.r : Rat) < valH k z := by
  rcases exists_min (fun k : Hp3 => (k.r : Rat) < valH k z) (fun k => ((k.r : Rat) - valH k y) / (valH k z - valH k y)) hs with h | ⟨m, hm, pm, hmin⟩
  · exact .inl fun g hg => Rat.not_lt.mp (h g hg)
  · have ym := hy m hm
    have dm : 0 < valH m z - valH m y := by grind
    refine .inr ⟨((m.r : Rat) - valH m y) / (valH m z - valH m y), ?_, ?_, fun g hg => ?_, m, hm, ?_, pm⟩
    · rw [Rat.div_def]
      exact Rat.mul_nonneg (by grind) (Rat.le_of_lt (Rat.inv_pos.mpr dm))
    · refine Rat.lt_of_mul_lt_mul_left (c := valH m z - valH m y) ?_ (Rat.le_of_lt dm)
      have : (valH m z - valH m y) * (((m.r : Rat) - valH m y) / (valH m z - valH m y)) = (m.r : Rat) - valH m y := by
        generalize valH m z - valH m y = d at *
        grind
      rw [this]
      grind
    · have yg := hy g hg
      have t0 : 0 ≤ ((m.r : Rat) - valH m y) / (valH m z - valH m y) := by
        rw [Rat.div_def]
        exact Rat.mul_nonneg (by grind) (Rat.le_of_lt (Rat.inv_pos.mpr dm))
      have t1 : ((m.r : Rat) - valH m y) / (valH m z - valH m y) ≤ 1 := by
        refine of_mul_le (a := valH m z - valH m y) ?_ dm
        have : (valH m z - valH m y) * (((m.r : Rat) - valH m y) / (valH m z - valH m y)) = (m.r : Rat) - valH m y := by
          generalize valH m z - valH m y = d at *
          grind
        rw [this]
        grind
      rw [val_along]
      by_cases pg : (g.r : Rat) < valH g z
      · have dg : 0 < valH g z - valH g y := by grind
        have w := mul_le (hmin g hg pg) (Rat.le_of_lt dg)
        have : (valH g z - valH g y) * (((g.r : Rat) - valH g y) / (valH g z - valH g y)) = (g.r : Rat) - valH g y := by
          generalize valH g z - valH g y = d at *
          grind
        rw [this] at w
        grind
      · have pg' : valH g z ≤ (g.r : Rat) := Rat.not_lt.mp pg
        generalize ((m.r : Rat) - valH m y) / (valH m z - valH m y) = t at *
        have w1 := mul_le pg' t0
        have w2 := mul_le yg (show 0 ≤ 1 - t by grind)
        grind
    · rw [val_along]
      generalize valH m z = a at *
      generalize valH m y = b at *
      have : a - b ≠ 0 := by grind
      grind
theorem par_val {g k : Hp3} (hg : Dir g) (h0 : dt g k = 0) {x y : Ray} (h : valH g x = valH g y) : valH k x = valH k y := by
  have hd := hg.pos
  have e := dt_cast g k
  rw [h0] at e
  have z0 : ((0 : Int) : Rat) = 0 := rfl
  rw [z0] at e
  have e2 := dot_cast g g
  unfold valH at *
  generalize (dotI g g : Rat) = d at *
  generalize (g.p : Rat) = gp at *
  generalize (g.q : Rat) = gq at *
  generalize (k.p : Rat) = kp at *
  generalize (k.q : Rat) = kq at *
  -- d * (k x - k y) = (k g) (g x - g y)
  have e3 : d * ((kp * x.1 + kq * x.2) - (kp * y.1 + kq * y.2)) = (gp * kp + gq * kq) * ((gp * x.1 + gq * x.2) - (gp * y.1 + gq * y.2)) := by
    rw [e2]
    grind
  rw [h] at e3
  have e4 : d * ((kp * x.1 + kq * x.2) - (kp * y.1 + kq * y.2)) = 0 := by grind
  have := (Rat.mul_eq_zero.mp e4).resolve_left (by grind)
  grind
theorem line_cand {hs : List Hp3} {k : Hp3} (hk : Dir k) {w : Ray} (hw : Rg hs w) (hkw : valH k w = k.r) : Rg hs (projH k) ∨ ∃ j ∈ hs, ∃ x, meetR k j = some x ∧ Rg hs x := by
  rcases segment (z := projH k) hw with h | ⟨t, t0, t1, hx, j, hj, e1, e2⟩
  · exact .inl h
  · refine .inr ⟨j, hj, along w (projH k) t, meet_of (fun h0 => ?_) ?_ e1, hx⟩
    · have hv : valH k (along w (projH k) t) = valH k (projH k) := by
        rw [val_along, proj_val hk, hkw]
        grind
      have := par_val hk h0 hv
      grind
    · rw [val_along, proj_val hk, hkw]
      grind
theorem cand_of {hs : List Hp3} (hd : ∀ g ∈ hs, Dir g) {x : Ray} (hx : Rg hs x) : ∃ c ∈ cands hs, Rg hs c := by
  rcases segment (z := (0, 0)) hx with h | ⟨t, _, _, hw, k, hk, e1, _⟩
  · exact ⟨_, List.mem_cons_self, h⟩
  · rcases line_cand (hd k hk) hw e1 with h | ⟨j, hj, y, hm, hy⟩
    · exact ⟨_, List.mem_cons_of_mem _ (List.mem_flatMap.mpr ⟨k, hk, List.mem_cons_self⟩), h⟩
    · exact ⟨y, List.mem_cons_of_mem _ (List.mem_flatMap.mpr ⟨k, hk, List.mem_cons_of_mem _ (List.mem_filterMap.mpr ⟨j, hj, hm⟩)⟩), hy⟩
def pts (hs : List Hp3) : List Ray := (cands hs).filter fun x => hs.all (hasH x)
theorem all_has {hs : List Hp3} {x : Ray} : hs.all (hasH x) = true ↔ Rg hs x := by
  rw [List.all_eq_true]
  unfold hasH Rg
  simp only [decide_eq_true_eq]
end PG

set_option maxRecDepth 100000
set_option maxHeartbeats 4000000
namespace PG
open PySem PySem.Spec PyProof.Rows L2 RT
def Pl (g : Hp3) : Prop := Dir g ∧ g.p.natAbs ≤ 2 ∧ g.q.natAbs ≤ 2 ∧ g.r.natAbs ≤ 6
theorem log_le {z : Int} {n b : Nat} (h : z.natAbs ≤ n) (hb : n < 2 ^ (b + 1)) : z.natAbs.log2 ≤ b := by
  by_cases h0 : z.natAbs = 0
  · rw [h0]
    exact Nat.zero_le _
  · have := (Nat.log2_lt h0 (k := b + 1)).mpr (by omega)
    omega
theorem Pl.z {g : Hp3} (h : Pl g) : HZ 4 g := by
  obtain ⟨_, h1, h2, h3⟩ := h
  have a := log_le (b := 1) h1 (by decide)
  have b := log_le (b := 1) h2 (by decide)
  have c := log_le (b := 2) h3 (by decide)
  exact ⟨by omega, by omega, by omega⟩
theorem gcd3_pos {p q r : Int} (h : ¬ (p = 0 ∧ q = 0)) : 0 < gcd3 p q r := by
  unfold gcd3
  have : Int.gcd (Int.gcd p q : Int) r ≠ 0 := fun e => by
    have := (Int.gcd_eq_zero_iff.mp e).1
    have : Int.gcd p q = 0 := by omega
    exact h (Int.gcd_eq_zero_iff.mp this)
  omega
theorem div_ab {a d : Int} (hd : d ∣ a) (h0 : 0 < d) : (a / d).natAbs ≤ a.natAbs ∧ (a / d = 0 → a = 0) := by
  obtain ⟨w, rfl⟩ := hd
  rw [Int.mul_ediv_cancel_left _ (by omega)]
  refine ⟨?_, fun e => by rw [e, Int.mul_zero]⟩
  rw [Int.natAbs_mul]
  exact Nat.le_mul_of_pos_left _ (by omega)
theorem gcd3_dvd (p q r : Int) : gcd3 p q r ∣ p ∧ gcd3 p q r ∣ q ∧ gcd3 p q r ∣ r := by
  unfold gcd3
  have h1 : (Int.gcd (Int.gcd p q : Int) r : Int) ∣ (Int.gcd p q : Int) := Int.gcd_dvd_left ..
  exact ⟨Int.dvd_trans h1 (Int.gcd_dvd_left ..), Int.dvd_trans h1 (Int.gcd_dvd_right ..), Int.gcd_dvd_right ..⟩
section
variable {ds : List Int} {i k : Nat} {st : List Cell} {Q : Vl → List Cell → Prop}
end
end PG

set_option maxRecDepth 100000
set_option maxHeartbeats 4000000
namespace PG
open PySem PySem.Spec PyProof.Rows L2 RT
theorem filt_ownM {α : Type} {f : α → Dt} {p : α → Bool} {sl slw : List (Option Vl)} {i : Nat} {lk : Option Nat} {tt : DT} {all : List Dt} {st : List Cell} {K : List Dt → M → Prop} (hlk : lockOk lk all ⟨sl, st⟩) (hi : i < slw.length) :
    ∀ (xs acc : List α), (∀ a ∈ xs, ∀ (P : Bool → M → Prop), P (p a) ⟨slw.set i (some (.d (f a))), st⟩ → tt ⟨slw.set i (some (.d (f a))), st⟩ P) → acc.length + xs.length ≤ 1000000 → K ((acc ++ xs.filter p).map f) ⟨sl, st⟩ → dLcGo sl slw (.nm i) tt (dVar i) all lk K (xs.map f) (acc.map f) st
  | [], acc, _, _, h => ⟨hlk, by rw [List.filter_nil, List.append_nil] at h; exact h⟩
  | x :: xs, acc, ht, hl, h => by
    rw [List.length_cons] at hl
    have hlk' := hlk
    refine ⟨hlk', ht x List.mem_cons_self _ ?_⟩
    have hv : (slw.set i (some (.d (f x))))[i]? = some (some (.d (f x))) := by simp [hi]
    have ht' := fun a ha => ht a (List.mem_cons_of_mem x ha)
    cases hp : p x with
    | true =>
      rw [if_pos rfl]
      unfold dVar
      simp only [hv]
      refine ⟨by rw [List.length_map]; exact small_lt (by omega), ?_⟩
      have := filt_ownM (all := all) (K := K) hlk hi xs (acc ++ [x]) ht' (by rw [List.length_append, List.length_singleton]; omega) (by rw [List.append_assoc]; rw [List.filter_cons, if_pos hp] at h; exact h)
      rw [List.map_append] at this
      exact this
    | false =>
      exact filt_ownM (K := K) hlk hi xs acc ht' (by omega) (by rw [List.filter_cons, if_neg (by rw [hp]; decide)] at h; exact h)
theorem fr_int (z : Int) : Dt.tup [.int z, .int 1] = fr (z : Rat) := rfl
theorem Pl.zb {g : Hp3} (h : Pl g) : zb (g.p : Rat) ≤ 5 ∧ zb (g.q : Rat) ≤ 5 ∧ zb (g.r : Rat) ≤ 5 := by
  obtain ⟨a, b, c⟩ := h.z
  have := zb_int g.p
  have := zb_int g.q
  have := zb_int g.r
  omega
section
variable {st : List Cell} {Q : Vl → List Cell → Prop} {g k l : Hp3} {x : Ray} {n : Nat} {hs : List Hp3}
theorem Pl.ab (hg : Pl g) : g.p.natAbs ≤ 6 ∧ g.q.natAbs ≤ 6 ∧ g.r.natAbs ≤ 6 := by
  obtain ⟨_, a, b, c⟩ := hg
  omega
theorem divI_z {a d : Int} (h0 : d ≠ 0) (h1 : a.natAbs ≤ 1000) (h2 : d.natAbs ≤ 1000) : zb (Rat.divInt a d) ≤ 20 := by
  have := zb_divInt (n := a) h0
  have := log_le (b := 9) h1 (by decide)
  have := log_le (b := 9) h2 (by decide)
  omega
end
end PG

set_option maxRecDepth 100000
set_option maxHeartbeats 4000000
namespace PG
open PySem PySem.Spec PyProof.Rows L2 RT
section
variable {st : List Cell} {Q : Vl → List Cell → Prop} {g k l : Hp3} {x : Ray} {n : Nat} {hs : List Hp3}
end
end PG

set_option maxRecDepth 100000
set_option maxHeartbeats 4000000
namespace PG
open PySem PySem.Spec PyProof.Rows L2 RT
section
variable {st : List Cell} {Q : Vl → List Cell → Prop} {g k l : Hp3} {x : Ray} {n : Nat} {hs : List Hp3}
end
end PG

set_option maxRecDepth 100000
set_option maxHeartbeats 4000000
namespace PG
open PySem PySem.Spec PyProof.Rows L2 RT
section
variable {st : List Cell} {Q : Vl → List Cell → Prop} {hs : List Hp3} {n : Nat}
end

end PG

set_option maxRecDepth 100000
set_option maxHeartbeats 4000000
namespace PG
open PySem PySem.Spec PyProof.Rows L2 RT

structure Sw (k W : Nat) (d : Dt) : Prop where
  shw : (toPy d).showable = true
  itg : (toPy d).intsShort 13 = true
  lay : (toPy d).canLay0 = true
  dep : (toPy d).depth ≤ k
  wt : (toPy d).weight ≤ W
theorem Sw.shows {k W : Nat} {d : Dt} (h : Sw k W d) (hk : k ≤ 60) (hW : W ≤ 1000000) : shows d := by
  refine ⟨h.shw, Nat.le_trans h.dep hk, ?_⟩
  have hl : PyData.layable0 (toPy d) = true := by
    unfold PyData.layable0
    rw [h.lay, decide_eq_true (show (toPy d).depth ≤ 64 by have := h.dep; omega), decide_eq_true (show (toPy d).weight ≤ 2 ^ 20 by have := h.wt; omega)]
    rfl
  exact PyData.shown_fits_of_layable0 (B := 13) (by decide) (by decide) hl h.itg

def Pg (g : Hp3) : Prop := Dir g ∧ gcd3 g.p g.q g.r = 1 ∧ g.p.natAbs ≤ 1000000 ∧ g.q.natAbs ≤ 1000000 ∧ g.r.natAbs ≤ 1000000
theorem Pg.z {g : Hp3} (h : Pg g) : HZ 30 g := by
  obtain ⟨_, _, h1, h2, h3⟩ := h
  have a := log_le (b := 20) h1 (by decide)
  have b := log_le (b := 20) h2 (by decide)
  have c := log_le (b := 20) h3 (by decide)
  exact ⟨by omega, by omega, by omega⟩
def hfB (g : Hp3) : Bool := decide (0 < g.q) || (decide (g.q = 0) && decide (0 < g.p))
def befK (g k : Hp3) : Bool := if hfB g ≠ hfB k then hfB g else if dt g k ≠ 0 then decide (0 < dt g k) else decide (g.r * n1 k < k.r * n1 g)
theorem hf_iff {g : Hp3} : hfB g = true ↔ 0 < g.q ∨ (g.q = 0 ∧ 0 < g.p) := by
  unfold hfB
  simp
theorem hf_not {g : Hp3} (hd : Dir g) : hfB g = false ↔ g.q < 0 ∨ (g.q = 0 ∧ g.p < 0) := by
  rw [← Bool.not_eq_true, hf_iff]
  have : ¬ (g.p = 0 ∧ g.q = 0) := hd
  omega
theorem dt_anti (g k : Hp3) : dt k g = -dt g k := by
  unfold dt
  have a := Int.mul_comm g.p k.q
  have b := Int.mul_comm g.q k.p
  omega
theorem same_dir {g k : Hp3} (hg : Dir g) (hk : Dir k) (hh : hfB g = hfB k) (h0 : dt g k = 0) : n1 k * g.p = n1 g * k.p ∧ n1 k * g.q = n1 g * k.q := by
  unfold dt at h0
  unfold n1 ab
  cases e : hfB g with
  | true =>
    rw [e] at hh
    have a := hf_iff.mp e
    have b := hf_iff.mp hh.symm
    rcases a with a | ⟨a1, a2⟩
    · rcases b with b | ⟨b1, b2⟩
      · -- both with q > 0: p and p' of one sign
        rcases Int.lt_trichotomy g.p 0 with s | s | s
        · have s' : k.p < 0 := by
            by_cases c : k.p < 0
            · exact c
            · have := Int.mul_neg_of_neg_of_pos s b
              have := Int.mul_nonneg (show 0 ≤ g.q by omega) (show 0 ≤ k.p by omega)
              omega
          rw [if_pos s, if_pos s', if_neg (by omega), if_neg (by omega)]
          constructor <;> grind
        · rw [s] at h0
          have : k.p = 0 := by
            have : g.q * k.p = 0 := by omega
            rcases Int.mul_eq_zero.mp this with h | h
            · omega
            · exact h
          rw [s, this, if_neg (by omega), if_neg (by omega), if_neg (by omega)]
          constructor <;> grind
        · have s' : ¬ k.p < 0 := fun c => by
            have := Int.mul_pos s b
            have := Int.mul_neg_of_pos_of_neg (show 0 < g.q by omega) c
            omega
          rw [if_neg (show ¬ g.p < 0 by omega), if_neg s', if_neg (show ¬ g.q < 0 by omega), if_neg (show ¬ k.q < 0 by omega)]
          constructor <;> grind
      · rw [b1] at h0
        have := Int.mul_pos a b2
        omega
    · rcases b with b | ⟨b1, b2⟩
      · rw [a1] at h0
        have := Int.mul_pos a2 b
        omega
      · rw [a1, b1, if_neg (by omega), if_neg (by omega), if_neg (by omega)]
        constructor <;> grind
  | false =>
    rw [e] at hh
    have a := (hf_not hg).mp e
    have b := (hf_not hk).mp hh.symm
    rcases a with a | ⟨a1, a2⟩
    · rcases b with b | ⟨b1, b2⟩
      · rcases Int.lt_trichotomy g.p 0 with s | s | s
        · have s' : k.p < 0 := by
            by_cases c : k.p < 0
            · exact c
            · have := Int.mul_pos_of_neg_of_neg s b
              have := Int.mul_nonneg (show 0 ≤ -g.q by omega) (show 0 ≤ k.p by omega)
              rw [Int.neg_mul] at this
              omega
          rw [if_pos s, if_pos s', if_pos a, if_pos b]
          constructor <;> grind
        · rw [s] at h0
          have : k.p = 0 := by
            have : g.q * k.p = 0 := by omega
            rcases Int.mul_eq_zero.mp this with h | h
            · omega
            · exact h
          rw [s, this, if_neg (by omega), if_pos a, if_pos b]
          constructor <;> grind
        · have s' : ¬ k.p < 0 := fun c => by
            have := Int.mul_neg_of_pos_of_neg s b
            have := Int.mul_pos_of_neg_of_neg a c
            omega
          rw [if_neg (show ¬ g.p < 0 by omega), if_neg s', if_pos a, if_pos b]
          constructor <;> grind
      · rw [b1] at h0
        have := Int.mul_pos_of_neg_of_neg a b2
        omega
    · rcases b with b | ⟨b1, b2⟩
      · rw [a1] at h0
        have := Int.mul_pos_of_neg_of_neg a2 b
        omega
      · rw [a1, b1, if_pos a2, if_pos b2, if_neg (by omega)]
        constructor <;> grind
theorem prim_eq {g k : Hp3} (hg : Pg g) (hk : Pg k) {m n : Int} (hm : 0 < m) (hn : 0 < n) (h1 : m * g.p = n * k.p) (h2 : m * g.q = n * k.q) (h3 : m * g.r = n * k.r) : g = k := by
  have e : m = n := by
    have a : ∀ {x y : Hp3} {u v : Int}, 0 < u → 0 < v → gcd3 x.p x.q x.r = 1 → u * x.p = v * y.p → u * x.q = v * y.q → u * x.r = v * y.r → v ∣ u := fun {x y u v} hu hv hx e1 e2 e3 => by
      have d1 : v ∣ u * x.p := ⟨_, e1⟩
      have d2 : v ∣ u * x.q := ⟨_, e2⟩
      have d3 : v ∣ u * x.r := ⟨_, e3⟩
      have c1 : v.natAbs ∣ u.natAbs * Int.gcd x.p x.q := by
        have a1 : v.natAbs ∣ u.natAbs * x.p.natAbs := by rw [← Int.natAbs_mul]; exact Int.natAbs_dvd_natAbs.mpr d1
        have a2 : v.natAbs ∣ u.natAbs * x.q.natAbs := by rw [← Int.natAbs_mul]; exact Int.natAbs_dvd_natAbs.mpr d2
        have := Nat.dvd_gcd a1 a2
        rw [Nat.gcd_mul_left] at this
        exact this
      have c2 : v.natAbs ∣ u.natAbs * x.r.natAbs := by rw [← Int.natAbs_mul]; exact Int.natAbs_dvd_natAbs.mpr d3
      have c3 := Nat.dvd_gcd c1 c2
      rw [Nat.gcd_mul_left] at c3
      have : Nat.gcd (Int.gcd x.p x.q) x.r.natAbs = 1 := by
        unfold gcd3 at hx
        have hx' : Int.gcd (Int.gcd x.p x.q : Int) x.r = 1 := by omega
        exact hx'
      rw [this, Nat.mul_one] at c3
      exact Int.natAbs_dvd_natAbs.mp c3
    have d1 := a hm hn hg.2.1 h1 h2 h3
    have d2 := a hn hm hk.2.1 h1.symm h2.symm h3.symm
    exact Int.dvd_antisymm (by omega) (by omega) d2 d1
  subst e
  have f : ∀ {x y : Int}, m * x = m * y → x = y := fun h => Int.eq_of_mul_eq_mul_left (by omega) h
  obtain ⟨gp, gq, gr⟩ := g
  obtain ⟨kp, kq, kr⟩ := k
  have e1 : gp = kp := f h1
  have e2 : gq = kq := f h2
  have e3 : gr = kr := f h3
  rw [e1, e2, e3]
theorem bef_half {g k : Hp3} (c : hfB g ≠ hfB k) : befK g k = hfB g := by
  unfold befK
  rw [if_pos c]
theorem bef_turn {g k : Hp3} (c : hfB g = hfB k) (c0 : dt g k ≠ 0) : befK g k = decide (0 < dt g k) := by
  unfold befK
  rw [if_neg (fun z => z c), if_pos c0]
theorem bef_reach {g k : Hp3} (c : hfB g = hfB k) (c0 : dt g k = 0) : befK g k = decide (g.r * n1 k < k.r * n1 g) := by
  unfold befK
  rw [if_neg (fun z => z c), if_neg (fun z => z c0)]
theorem bef_asymm {g k : Hp3} (h : befK g k = true) : befK k g = false := by
  have da := dt_anti g k
  by_cases c : hfB g = hfB k
  · by_cases c0 : dt g k = 0
    · rw [bef_reach c c0] at h
      rw [bef_reach c.symm (by omega)]
      have := of_decide_eq_true h
      exact decide_eq_false (by omega)
    · rw [bef_turn c c0] at h
      rw [bef_turn c.symm (by omega)]
      have := of_decide_eq_true h
      exact decide_eq_false (by omega)
  · rw [bef_half c] at h
    rw [bef_half (fun z => c z.symm)]
    cases e : hfB k with
    | false => rfl
    | true =>
      rw [h, e] at c
      exact (c rfl).elim
theorem bef_total {g k : Hp3} (hg : Pg g) (hk : Pg k) (hne : g ≠ k) : befK g k = true ∨ befK k g = true := by
  have da := dt_anti g k
  by_cases c : hfB g = hfB k
  · by_cases c0 : dt g k = 0
    · rw [bef_reach c c0, bef_reach c.symm (by omega), decide_eq_true_iff, decide_eq_true_iff]
      obtain ⟨e1, e2⟩ := same_dir hg.1 hk.1 c c0
      have pg := n1_pos hg.1
      have pk := n1_pos hk.1
      refine Classical.byContradiction fun hno => hne (prim_eq hg hk pk pg e1 e2 ?_)
      have a := Int.mul_comm g.r (n1 k)
      have b := Int.mul_comm k.r (n1 g)
      omega
    · rw [bef_turn c c0, bef_turn c.symm (by omega), decide_eq_true_iff, decide_eq_true_iff]
      omega
  · rw [bef_half c, bef_half (fun z => c z.symm)]
    cases e : hfB g <;> cases e' : hfB k <;> simp_all
end PG

set_option maxRecDepth 100000
set_option maxHeartbeats 4000000
namespace PG
open PySem PySem.Spec PyProof.Rows L2 RT
theorem pos_of_mulI {a b : Int} (ha : 0 < a) (h : 0 < a * b) : 0 < b := by
  refine Classical.byContradiction fun c => ?_
  have := Int.mul_nonneg (show 0 ≤ a by omega) (show 0 ≤ -b by omega)
  rw [Int.mul_neg] at this
  omega
theorem turn_trans {gp gq kp kq lp lq : Int} (hg : 0 < gq ∨ (gq = 0 ∧ 0 < gp)) (hk : 0 < kq ∨ (kq = 0 ∧ 0 < kp)) (hl : 0 < lq ∨ (lq = 0 ∧ 0 < lp)) (h1 : 0 < gp * kq - gq * kp) (h2 : 0 < kp * lq - kq * lp) : 0 < gp * lq - gq * lp := by
  refine Classical.byContradiction fun hn => ?_
  have e1 : (kp * lq - kq * lp) * gq + (gp * kq - gq * kp) * lq = (gp * lq - gq * lp) * kq := by grind
  have e2 : (kp * lq - kq * lp) * gp + (gp * kq - gq * kp) * lp = (gp * lq - gq * lp) * kp := by grind
  generalize kp * lq - kq * lp = a at *
  generalize gp * kq - gq * kp = b at *
  generalize gp * lq - gq * lp = D at *
  have u1 : 0 ≤ a * gq := Int.mul_nonneg (by omega) (by omega)
  have u2 : 0 ≤ b * lq := Int.mul_nonneg (by omega) (by omega)
  have u3 : 0 ≤ (-D) * kq := Int.mul_nonneg (by omega) (by omega)
  rw [Int.neg_mul] at u3
  have z1 : a * gq = 0 := by omega
  have z2 : b * lq = 0 := by omega
  have z3 : D * kq = 0 := by omega
  have gq0 : gq = 0 := (Int.mul_eq_zero.mp z1).resolve_left (by omega)
  have lq0 : lq = 0 := (Int.mul_eq_zero.mp z2).resolve_left (by omega)
  have v1 := Int.mul_pos h2 (show 0 < gp by omega)
  have v2 := Int.mul_pos h1 (show 0 < lp by omega)
  have D0 : D ≠ 0 := fun z => by
    rw [z, Int.zero_mul] at e2
    omega
  have kq0 : kq = 0 := (Int.mul_eq_zero.mp z3).resolve_left D0
  have v3 := Int.mul_pos (show 0 < -D by omega) (show 0 < kp by omega)
  rw [Int.neg_mul] at v3
  omega
theorem dt_trans {g k l : Hp3} (hg : Dir g) (hk : Dir k) (hl : Dir l) (c1 : hfB g = hfB k) (c2 : hfB k = hfB l) (h1 : 0 < dt g k) (h2 : 0 < dt k l) : 0 < dt g l := by
  unfold dt at *
  cases e : hfB g with
  | true =>
    rw [e] at c1
    rw [← c1] at c2
    exact turn_trans (hf_iff.mp e) (hf_iff.mp c1.symm) (hf_iff.mp c2.symm) h1 h2
  | false =>
    rw [e] at c1
    rw [← c1] at c2
    have a := (hf_not hg).mp e
    have b := (hf_not hk).mp c1.symm
    have c := (hf_not hl).mp c2.symm
    have := turn_trans (gp := -g.p) (gq := -g.q) (kp := -k.p) (kq := -k.q) (lp := -l.p) (lq := -l.q) (by omega) (by omega) (by omega) (by rw [Int.neg_mul_neg, Int.neg_mul_neg]; exact h1) (by rw [Int.neg_mul_neg, Int.neg_mul_neg]; exact h2)
    rw [Int.neg_mul_neg, Int.neg_mul_neg] at this
    exact this
theorem bef_trans {g k l : Hp3} (hg : Dir g) (hk : Dir k) (hl : Dir l) (h1 : befK g k = true) (h2 : befK k l = true) : befK g l = true := by
  have pg := n1_pos hg
  have pk := n1_pos hk
  have pl := n1_pos hl
  by_cases c1 : hfB g = hfB k
  · by_cases c2 : hfB k = hfB l
    · have c3 : hfB g = hfB l := c1.trans c2
      by_cases d1 : dt g k = 0
      · obtain ⟨e1, e2⟩ := same_dir hg hk c1 d1
        have key : n1 k * dt g l = n1 g * dt k l := by
          unfold dt
          grind
        by_cases d2 : dt k l = 0
        · rw [bef_reach c1 d1, decide_eq_true_iff] at h1
          rw [bef_reach c2 d2, decide_eq_true_iff] at h2
          have d3 : dt g l = 0 := by
            rw [d2, Int.mul_zero] at key
            exact (Int.mul_eq_zero.mp key).resolve_left (by omega)
          rw [bef_reach c3 d3, decide_eq_true_iff]
          -- r_g n_k n_l < r_k n_g n_l < r_l n_k n_g
          have w1 := Int.mul_lt_mul_of_pos_right h1 pl
          have w2 := Int.mul_lt_mul_of_pos_right h2 pg
          have w3 : g.r * n1 l * n1 k < l.r * n1 g * n1 k := by
            have a1 : g.r * n1 k * n1 l = g.r * n1 l * n1 k := by grind
            have a2 : k.r * n1 g * n1 l = k.r * n1 l * n1 g := by grind
            have a3 : l.r * n1 k * n1 g = l.r * n1 g * n1 k := by grind
            omega
          exact Int.lt_of_mul_lt_mul_right w3 (by omega)
        · rw [bef_turn c2 d2, decide_eq_true_iff] at h2
          have v := Int.mul_pos pg h2
          rw [← key] at v
          have : 0 < dt g l := pos_of_mulI pk v
          rw [bef_turn c3 (by omega), decide_eq_true_iff]
          exact this
      · rw [bef_turn c1 d1, decide_eq_true_iff] at h1
        by_cases d2 : dt k l = 0
        · obtain ⟨e1, e2⟩ := same_dir hk hl c2 d2
          have key : n1 k * dt g l = n1 l * dt g k := by
            unfold dt
            grind
          have v := Int.mul_pos pl h1
          rw [← key] at v
          have : 0 < dt g l := pos_of_mulI pk v
          rw [bef_turn c3 (by omega), decide_eq_true_iff]
          exact this
        · rw [bef_turn c2 d2, decide_eq_true_iff] at h2
          have := dt_trans hg hk hl c1 c2 h1 h2
          rw [bef_turn c3 (by omega), decide_eq_true_iff]
          exact this
    · rw [bef_half c2] at h2
      have c3 : hfB g ≠ hfB l := fun z => c2 (c1.symm.trans z)
      rw [bef_half c3, c1]
      exact h2
  · rw [bef_half c1] at h1
    have kf : hfB k = false := by
      cases e : hfB k with
      | false => rfl
      | true =>
        rw [h1, e] at c1
        exact (c1 rfl).elim
    have c2 : hfB k = hfB l := by
      refine Classical.byContradiction fun c2 => ?_
      rw [bef_half c2, kf] at h2
      cases h2
    have c3 : hfB g ≠ hfB l := by
      rw [← c2]
      exact c1
    rw [bef_half c3]
    exact h1

def Srt (l : List Hp3) : Prop := l.Pairwise fun a b => befK a b = true
def insK (L : List Hp3) (g : Hp3) : List Hp3 := if g ∈ L then L else L.take (L.filter fun y => befK y g).length ++ [g] ++ L.drop (L.filter fun y => befK y g).length
theorem insK_mem {L : List Hp3} {g y : Hp3} : y ∈ insK L g ↔ y ∈ L ∨ y = g := by
  unfold insK
  split
  · rename_i h
    constructor
    · exact .inl
    · rintro (h' | rfl)
      · exact h'
      · exact h
  · generalize (L.filter fun y => befK y g).length = n
    rw [List.mem_append, List.mem_append, List.mem_singleton]
    constructor
    · rintro ((h | h) | h)
      · exact .inl (List.mem_of_mem_take h)
      · exact .inr h
      · exact .inl (List.mem_of_mem_drop h)
    · rintro (h | h)
      · have : y ∈ L.take n ++ L.drop n := by rw [List.take_append_drop]; exact h
        rcases List.mem_append.mp this with h | h
        · exact .inl (.inl h)
        · exact .inr h
      · exact .inl (.inr h)
theorem insK_len (L : List Hp3) (g : Hp3) : (insK L g).length ≤ L.length + 1 := by
  unfold insK
  split
  · omega
  · rw [List.length_append, List.length_append, List.length_singleton, List.length_take, List.length_drop]
    omega
theorem srt_place {g : Hp3} (hg : Pg g) : ∀ {L : List Hp3}, Srt L → (∀ y ∈ L, Pg y) → g ∉ L → Srt (L.take (L.filter fun y => befK y g).length ++ [g] ++ L.drop (L.filter fun y => befK y g).length)
  | [], _, _, _ => List.pairwise_singleton ..
  | a :: r, s, hp, hn => by
    obtain ⟨p1, q1⟩ := List.pairwise_cons.mp s
    have pa := hp a List.mem_cons_self
    have hpr := fun y hy => hp y (List.mem_cons_of_mem a hy)
    have hne : g ≠ a := fun e => hn (by rw [e]; exact List.mem_cons_self)
    have hnr : g ∉ r := fun e => hn (List.mem_cons_of_mem _ e)
    cases c : befK a g with
    | true =>
      rw [List.filter_cons, if_pos c, List.length_cons, List.take_succ_cons, List.drop_succ_cons]
      refine List.pairwise_cons.mpr ⟨fun y hy => ?_, srt_place hg q1 hpr hnr⟩
      have hy' : y ∈ insK r g := by
        unfold insK
        rw [if_neg hnr]
        exact hy
      rcases insK_mem.mp hy' with h | h
      · exact p1 y h
      · rw [h]
        exact c
    | false =>
      have ga : befK g a = true := by
        rcases bef_total hg pa hne with h | h
        · exact h
        · rw [h] at c
          cases c
      have f0 : ((a :: r).filter fun y => befK y g) = [] := by
        rw [List.filter_eq_nil_iff]
        intro y hy hb
        rcases List.mem_cons.mp hy with e | e
        · rw [e, c] at hb
          cases hb
        · have := bef_asymm (bef_trans hg.1 pa.1 (hpr y e).1 ga (p1 y e))
          rw [hb] at this
          cases this
      rw [f0]
      refine List.pairwise_cons.mpr ⟨fun y hy => ?_, s⟩
      rcases List.mem_cons.mp hy with e | e
      · rw [e]
        exact ga
      · exact bef_trans hg.1 pa.1 (hpr y e).1 ga (p1 y e)
theorem insK_srt {L : List Hp3} {g : Hp3} (hg : Pg g) (s : Srt L) (hp : ∀ y ∈ L, Pg y) : Srt (insK L g) := by
  unfold insK
  by_cases c : g ∈ L
  · rw [if_pos c]
    exact s
  · rw [if_neg c]
    exact srt_place hg s hp c
def inOrd (L : List Hp3) : List Hp3 := L.foldl insK []
theorem foldl_ins : ∀ {r L : List Hp3}, (∀ g ∈ r, Pg g) → (∀ g ∈ L, Pg g) → Srt L → Srt (r.foldl insK L) ∧ (∀ x, x ∈ r.foldl insK L ↔ x ∈ L ∨ x ∈ r) ∧ (r.foldl insK L).length ≤ L.length + r.length
  | [], L, _, _, s => ⟨s, fun x => by simp, Nat.le_refl _⟩
  | g :: r, L, hr, hL, s => by
    have hg := hr g List.mem_cons_self
    obtain ⟨s1, m1, l1⟩ := foldl_ins (r := r) (L := insK L g) (fun y hy => hr y (List.mem_cons_of_mem _ hy)) (fun y hy => by
      rcases insK_mem.mp hy with h | h
      · exact hL y h
      · rw [h]
        exact hg) (insK_srt hg s hL)
    refine ⟨s1, fun x => ?_, ?_⟩
    · rw [List.foldl_cons, m1, insK_mem, List.mem_cons, or_assoc]
    · rw [List.foldl_cons, List.length_cons]
      have := insK_len L g
      omega
theorem inOrd_spec {L : List Hp3} (h : ∀ g ∈ L, Pg g) : Srt (inOrd L) ∧ (∀ x, x ∈ inOrd L ↔ x ∈ L) ∧ (inOrd L).length ≤ L.length := by
  obtain ⟨a, b, c⟩ := foldl_ins (r := L) (L := []) h (fun _ h => nomatch h) List.Pairwise.nil
  unfold inOrd
  exact ⟨a, fun x => by
    have := b x
    simpa using this, by simpa using c⟩
end PG

set_option maxRecDepth 100000
set_option maxHeartbeats 4000000
namespace PG
open PySem PySem.Spec PyProof.Rows L2 RT

def act (hs : List Hp3) (x : Ray) : List Hp3 := hs.filter fun g => decide (valH g x = (g.r : Rat))
def midB (hs : List Hp3) (x : Ray) : Bool := (act hs x).all fun g => (act hs x).all fun k => decide (dt g k = 0)
theorem act_mem {hs : List Hp3} {x : Ray} {g : Hp3} : g ∈ act hs x ↔ g ∈ hs ∧ valH g x = g.r := by
  unfold act
  rw [List.mem_filter, decide_eq_true_iff]
def befR (a b : Ray) : Bool := if a.1 = b.1 then decide (a.2 < b.2) else decide (a.1 < b.1)
def putF (L : List Ray) (x : Ray) : List Ray := if x ∈ L then L else L.take (L.filter fun y => befR y x).length ++ [x] ++ L.drop (L.filter fun y => befR y x).length
theorem putF_mem {L : List Ray} {x y : Ray} : y ∈ putF L x ↔ y ∈ L ∨ y = x := by
  unfold putF
  split
  · rename_i h
    constructor
    · exact .inl
    · rintro (h' | rfl)
      · exact h'
      · exact h
  · generalize (L.filter fun y => befR y x).length = n
    rw [List.mem_append, List.mem_append, List.mem_singleton]
    constructor
    · rintro ((h | h) | h)
      · exact .inl (List.mem_of_mem_take h)
      · exact .inr h
      · exact .inl (List.mem_of_mem_drop h)
    · rintro (h | h)
      · have : y ∈ L.take n ++ L.drop n := by rw [List.take_append_drop]; exact h
        rcases List.mem_append.mp this with h | h
        · exact .inl (.inl h)
        · exact .inr h
      · exact .inl (.inr h)
def putM (hs : List Hp3) (g : Hp3) (L : List Ray) (k : Hp3) : List Ray := match meetR g k with
  | none => L
  | some x => if hs.all (hasH x) = true then putF L x else L
def corF (hs : List Hp3) : List Hp3 → List Ray → List Ray
  | [], L => L
  | g :: r, L => corF hs r (r.foldl (putM hs g) L)
theorem putM_mem {hs : List Hp3} {g : Hp3} {y : Ray} : ∀ {r : List Hp3} {L : List Ray}, y ∈ r.foldl (putM hs g) L ↔ y ∈ L ∨ (Rg hs y ∧ ∃ k ∈ r, meetR g k = some y)
  | [], L => by simp
  | k :: r, L => by
    rw [List.foldl_cons, putM_mem]
    have one : y ∈ putM hs g L k ↔ y ∈ L ∨ (Rg hs y ∧ meetR g k = some y) := by
      unfold putM
      cases e : meetR g k with
      | none =>
        constructor
        · exact .inl
        · rintro (h | ⟨_, h⟩)
          · exact h
          · cases h
      | some x =>
        dsimp only
        by_cases c : hs.all (hasH x) = true
        · rw [if_pos c, putF_mem]
          constructor
          · rintro (h | rfl)
            · exact .inl h
            · exact .inr ⟨all_has.mp c, rfl⟩
          · rintro (h | ⟨_, h⟩)
            · exact .inl h
            · exact .inr (Option.some.inj h).symm
        · rw [if_neg c]
          constructor
          · exact .inl
          · rintro (h | ⟨h1, h⟩)
            · exact h
            · rw [← Option.some.inj h] at h1
              exact (c (all_has.mpr h1)).elim
    rw [one]
    constructor
    · rintro ((h | ⟨h1, h2⟩) | ⟨h1, k', hk', h2⟩)
      · exact .inl h
      · exact .inr ⟨h1, k, List.mem_cons_self, h2⟩
      · exact .inr ⟨h1, k', List.mem_cons_of_mem _ hk', h2⟩
    · rintro (h | ⟨h1, k', hk', h2⟩)
      · exact .inl (.inl h)
      · rcases List.mem_cons.mp hk' with e | e
        · rw [e] at h2
          exact .inl (.inr ⟨h1, h2⟩)
        · exact .inr ⟨h1, k', e, h2⟩
theorem meet_swap {g k : Hp3} {x : Ray} (h : meetR g k = some x) : meetR k g = some x := by
  obtain ⟨h0, h1, h2⟩ := meet_val h
  refine meet_of (fun z => h0 ?_) h2 h1
  unfold dt at *
  have a := Int.mul_comm k.p g.q
  have b := Int.mul_comm k.q g.p
  omega
theorem cor_mem {hs : List Hp3} {y : Ray} : ∀ {r : List Hp3} {L : List Ray}, y ∈ corF hs r L ↔ y ∈ L ∨ (Rg hs y ∧ ∃ g ∈ r, ∃ k ∈ r, meetR g k = some y)
  | [], L => by
    unfold corF
    simp
  | g :: r, L => by
    unfold corF
    rw [cor_mem, putM_mem]
    constructor
    · rintro ((h | ⟨h1, k, hk, h2⟩) | ⟨h1, g', hg', k, hk, h2⟩)
      · exact .inl h
      · exact .inr ⟨h1, g, List.mem_cons_self, k, List.mem_cons_of_mem _ hk, h2⟩
      · exact .inr ⟨h1, g', List.mem_cons_of_mem _ hg', k, List.mem_cons_of_mem _ hk, h2⟩
    · rintro (h | ⟨h1, g', hg', k, hk, h2⟩)
      · exact .inl (.inl h)
      · rcases List.mem_cons.mp hg' with e | hg'
        · rcases List.mem_cons.mp hk with e' | hk
          · exfalso
            obtain ⟨h0, _, _⟩ := meet_val h2
            rw [e, e'] at h0
            refine h0 ?_
            unfold dt
            have := Int.mul_comm g.p g.q
            omega
          · rw [e] at h2
            exact .inl (.inr ⟨h1, k, hk, h2⟩)
        · rcases List.mem_cons.mp hk with e' | hk
          · rw [e'] at h2
            exact .inl (.inr ⟨h1, g', hg', meet_swap h2⟩)
          · exact .inr ⟨h1, g', hg', k, hk, h2⟩
def corners (hs : List Hp3) : List Ray := corF hs hs []
theorem corner_mid {hs : List Hp3} {x : Ray} (hx : Rg hs x) : decide (x ∈ corners hs) = !midB hs x := by
  rw [Bool.eq_iff_iff, decide_eq_true_iff, Bool.not_eq_true', ← Bool.not_eq_true]
  unfold corners
  rw [cor_mem]
  constructor
  · rintro (h | ⟨_, g, hg, k, hk, h⟩) hm
    · cases h
    · obtain ⟨h0, h1, h2⟩ := meet_val h
      have := List.all_eq_true.mp (List.all_eq_true.mp hm g (act_mem.mpr ⟨hg, h1⟩)) k (act_mem.mpr ⟨hk, h2⟩)
      exact h0 (of_decide_eq_true this)
  · intro h
    refine .inr ⟨hx, Classical.byContradiction fun hno => h ?_⟩
    refine List.all_eq_true.mpr fun g hg => List.all_eq_true.mpr fun k hk => decide_eq_true (Classical.byContradiction fun h0 => hno ?_)
    obtain ⟨hg1, hg2⟩ := act_mem.mp hg
    obtain ⟨hk1, hk2⟩ := act_mem.mp hk
    exact ⟨g, hg1, k, hk1, meet_of h0 hg2 hk2⟩

theorem divInt_mul {a d : Int} (h : d ≠ 0) : (d : Rat) * Rat.divInt a d = (a : Rat) := by
  have : (d : Rat) ≠ 0 := fun y => h (Rat.intCast_eq_zero_iff.mp y)
  rw [divI]
  generalize (d : Rat) = d at *
  grind
def half : Rat := Rat.divInt 1 2
end PG

set_option maxRecDepth 100000
set_option maxHeartbeats 4000000
namespace PG
open PySem PySem.Spec PyProof.Rows L2 RT
theorem sgn_lt0 (x y : Rat) : sgn (x - y) < 0 ↔ x < y := by
  rw [sgn_neg]
  grind
section
variable {st : List Cell} {Q : Vl → List Cell → Prop} {hs : List Hp3} {n : Nat} {g k : Hp3} {x : Ray}
theorem meet_zn (hg : HZ n g) (hk : HZ n k) (h : meetR g k = some x) : zb x.1 ≤ 2 * n + 2 ∧ zb x.2 ≤ 2 * n + 2 := by
  have d0 := dt_z hg hk
  obtain ⟨g1, g2, g3⟩ := hg
  obtain ⟨k1, k2, k3⟩ := hk
  unfold meetR at h
  by_cases c : dt g k = 0
  · rw [if_pos c] at h
    cases h
  · rw [if_neg c] at h
    cases h
    have a1 := lgm (n := n) (m := n) g3 k2
    have a2 := lgm (n := n) (m := n) k3 g2
    have a3 := lgs (n := 2 * n - 3) (a := g.r * k.q) (b := k.r * g.q) (by omega) (by omega)
    have b1 := lgm (n := n) (m := n) g1 k3
    have b2 := lgm (n := n) (m := n) k1 g3
    have b3 := lgs (n := 2 * n - 3) (a := g.p * k.r) (b := k.p * g.r) (by omega) (by omega)
    have c1 := zb_divInt (n := g.r * k.q - k.r * g.q) c
    have c2 := zb_divInt (n := g.p * k.r - k.p * g.r) c
    dsimp only
    omega
end
end PG

set_option maxRecDepth 100000
set_option maxHeartbeats 4000000
namespace PG
open PySem PySem.Spec PyProof.Rows L2 RT
theorem eqD_hp {a b : Hp3} : eqD (hpD a) (hpD b) = decide (a = b) := by
  rw [Bool.eq_iff_iff, eqD_iff rfl rfl, decide_eq_true_iff]
  constructor
  · intro e
    have e' : [Dt.int a.p, Dt.int a.q, Dt.int a.r] = [Dt.int b.p, Dt.int b.q, Dt.int b.r] := Dt.tup.inj e
    simp at e'
    obtain ⟨ap, aq, ar⟩ := a
    obtain ⟨bp, bq, br⟩ := b
    dsimp only at e'
    rw [e'.1, e'.2.1, e'.2.2]
  · intro e
    rw [e]
theorem any_hp {L : List Hp3} {x : Hp3} : ((L.map hpD).any fun z => eqD z (hpD x)) = decide (x ∈ L) := by
  rw [List.any_map, Bool.eq_iff_iff, List.any_eq_true, decide_eq_true_iff]
  constructor
  · rintro ⟨y, hy, e⟩
    have e' : eqD (hpD y) (hpD x) = true := e
    rw [eqD_hp, decide_eq_true_iff] at e'
    rw [← e']
    exact hy
  · intro h
    refine ⟨x, h, ?_⟩
    show eqD (hpD x) (hpD x) = true
    exact eqD_self _
theorem sh_hp {g : Hp3} : Sh 1 (hpD g) := sh_tup (all_cons sh_int (all_cons sh_int (all_cons sh_int all_nil)))
theorem sh_hps {L : List Hp3} : shD (.lst (L.map hpD)) := sh_ok (n := 2) (sh_lst (all_map fun _ _ => sh_hp))
theorem dlt {a b c d : Int} (hb : 0 < b) (hd : 0 < d) : Rat.divInt a b < Rat.divInt c d ↔ a * d < c * b := by
  have e1 := divInt_mul (a := a) (d := b) (by omega)
  have e2 := divInt_mul (a := c) (d := d) (by omega)
  have pb : (0 : Rat) < (b : Rat) := Rat.intCast_pos.mpr hb
  have pd : (0 : Rat) < (d : Rat) := Rat.intCast_pos.mpr hd
  have h : a * d < c * b ↔ ((a * d : Int) : Rat) < ((c * b : Int) : Rat) := Rat.intCast_lt_intCast.symm
  rw [h, castI, castI, ← e1, ← e2]
  generalize Rat.divInt a b = x at *
  generalize Rat.divInt c d = y at *
  have pbd := Rat.mul_pos pb pd
  constructor
  · intro h
    have := Rat.mul_pos pbd (show 0 < y - x by grind)
    grind
  · intro h
    refine Classical.byContradiction fun c => ?_
    have := mul_le (show y ≤ x by grind) (Rat.le_of_lt pbd)
    grind
section
variable {st : List Cell} {Q : Vl → List Cell → Prop} {g k : Hp3}
theorem pg_mul {a b : Int} (h1 : a.natAbs ≤ 10000000) (h2 : b.natAbs ≤ 10000000) : MulOk a b := by
  have := log_le (b := 30) h1 (by decide)
  have := log_le (b := 30) h2 (by decide)
  exact mulok (zm (by omega))
theorem Pg.ab (h : Pg g) : g.p.natAbs ≤ 10000000 ∧ g.q.natAbs ≤ 10000000 ∧ g.r.natAbs ≤ 10000000 ∧ 0 < n1 g ∧ (n1 g).natAbs ≤ 10000000 := by
  have := n1_pos h.1
  obtain ⟨_, _, a, b, c⟩ := h
  unfold n1 at *
  rw [ab_nat, ab_nat] at *
  omega
theorem cross_ok (hg : Pg g) (hk : Pg k) (h : Q (.d (.int (dt g k))) st) : sp_cross [.d (hpD g), .d (hpD k)] st Q := by
  obtain ⟨a1, b1, c1, _⟩ := hg.ab
  obtain ⟨a2, b2, c2, _⟩ := hk.ab
  unfold sp_cross
  exact ⟨rfl, pg_mul a1 b2, pg_mul b1 a2, trivial, tk h⟩
def oppH (g : Hp3) : Hp3 := ⟨-g.p, -g.q, -g.r⟩
theorem opp_ok (h : Q (.d (hpD (oppH g))) st) : sp_opposite [.d (hpD g)] st Q := by
  unfold sp_opposite
  exact ⟨rfl, lineN rfl, tk h⟩
theorem reach_ok (hg : Pg g) (h : Q (.d (fr (Rat.divInt g.r (n1 g)))) st) : sp_reach [.d (hpD g)] st Q := by
  have := hg.ab
  unfold sp_reach
  exact ⟨rfl, fraction_ok (d := n1 g) (by omega) (tk h)⟩
theorem hf_ok (h : Q (.d (.bl (hfB g))) st) : sp_in_first_half [.d (hpD g)] st Q := by
  unfold sp_in_first_half
  refine ⟨rfl, trivial, ?_⟩
  unfold hfB at h
  show if decide (0 < g.q) = true then _ else _
  cases c : decide (0 < g.q) with
  | true =>
    rw [c, Bool.true_or] at h
    exact tk h
  | false =>
    rw [c, Bool.false_or] at h
    refine ⟨rfl, rfl, ?_⟩
    show if eqD (.int g.q) (.int 0) = true then _ else _
    rw [eqD_int]
    cases c2 : decide (g.q = 0) with
    | true =>
      rw [c2, Bool.true_and] at h
      exact ⟨trivial, tk h⟩
    | false =>
      rw [c2, Bool.false_and] at h
      exact tk h
theorem reach_lt (hg : Pg g) (hk : Pg k) : decide (sgn (Rat.divInt g.r (n1 g) - Rat.divInt k.r (n1 k)) < 0) = decide (g.r * n1 k < k.r * n1 g) := by
  obtain ⟨_, _, _, p1, _⟩ := hg.ab
  obtain ⟨_, _, _, p2, _⟩ := hk.ab
  refine decide_eq_decide.mpr ?_
  rw [sgn_lt0, dlt p1 p2]
theorem reach_z (hg : Pg g) : zb (Rat.divInt g.r (n1 g)) ≤ 40 := by
  obtain ⟨_, _, c, p1, n⟩ := hg.ab
  have := zb_divInt (n := g.r) (d := n1 g) (by omega)
  have := log_le (b := 30) c (by decide)
  have := log_le (b := 30) n (by decide)
  omega
theorem before_ok (hg : Pg g) (hk : Pg k) (h : Q (.d (.bl (befK g k))) st) : sp_comes_before [.d (hpD g), .d (hpD k)] st Q := by
  unfold sp_comes_before
  refine ⟨rfl, ?_⟩
  let S : Option Vl → M := fun z => ⟨[some (.d (hpD g)), some (.d (hpD k)), z], st⟩
  have cnd : ∀ K : Bool → M → Prop, K (!(hfB g == hfB k)) (S none) → dTest (dOp RT.rNe (dCall PG.sp_in_first_half [] (dCons (dVar 0) dNil)) (dCall PG.sp_in_first_half [] (dCons (dVar 1) dNil))) (S none) K := fun K hK => by
    refine hf_ok ?_
    refine hf_ok ⟨rfl, rfl, ?_⟩
    show K (!eqD (.bl (hfB g)) (.bl (hfB k))) _
    rw [eqD_bl]
    exact hK
  by_cases c : hfB g = hfB k
  · have e : (hfB g == hfB k) = true := by rw [c]; exact beq_self_eq_true _
    rw [e] at cnd
    refine guard_st (S none) (fun K hK => cnd K hK) ?_
    refine seq_to (S (some (.d (.int (dt g k))))) (fun K hK => cross_ok hg hk hK) ?_
    by_cases c0 : dt g k = 0
    · rw [bef_reach c c0] at h
      refine guard_st (S (some (.d (.int (dt g k))))) (fun K hK => ⟨rfl, rfl, ?_⟩) ?_
      · show K (!eqD (.int (dt g k)) (.int 0)) _
        rw [eqD_int, decide_eq_true c0]
        exact hK
      have z1 := reach_z hg
      have z2 := reach_z hk
      refine reach_ok hg ?_
      refine reach_ok hk ?_
      refine compare_ok (zm (by omega)) ⟨trivial, ?_⟩
      rw [← reach_lt hg hk] at h
      exact tk h
    · rw [bef_turn c c0] at h
      refine ifs_t (S (some (.d (.int (dt g k))))) (fun K hK => ⟨rfl, rfl, ?_⟩) ⟨trivial, tk h⟩
      show K (!eqD (.int (dt g k)) (.int 0)) _
      rw [eqD_int, decide_eq_false c0]
      exact hK
  · have e : (hfB g == hfB k) = false := by simpa using c
    rw [e] at cnd
    rw [bef_half c] at h
    exact ifs_t (S none) (fun K hK => cnd K hK) (hf_ok (tk h))
end
end PG

set_option maxRecDepth 100000
set_option maxHeartbeats 4000000
namespace PG
open PySem PySem.Spec PyProof.Rows L2 RT
section
variable {st : List Cell} {Q : Vl → List Cell → Prop}
theorem inorder_ok {L0 : List Hp3} (hp : ∀ g ∈ L0, Pg g) (hl : L0.length ≤ 10000) (h : Q (.d (.lst ((inOrd L0).map hpD))) st) : sp_in_order [.d (.lst (L0.map hpD))] st Q := by
  unfold sp_in_order
  refine ⟨rfl, ?_⟩
  let S : List Hp3 → Option Vl → Option Vl → M := fun L z2 z3 => ⟨[some (.d (.lst (L0.map hpD))), some (.c st.length), z2, z3, none], st ++ [Cell.lst (L.map hpD)]⟩
  refine seq_to (S [] none none) (fun K hK => ⟨lineN rfl, hK⟩) ?_
  refine seq_mid (fun m => ∃ z2 z3, m = S (inOrd L0) z2 z3) (fun K hK => ?_) ?_
  · refine each_inv (lk := none) hpD (fun r m => ∃ L z2 z3, (∀ g ∈ r, Pg g) ∧ (∀ g ∈ L, Pg g) ∧ L.length + r.length ≤ 10000 ∧ r.foldl insK L = inOrd L0 ∧ m = S L z2 z3) (fun _ _ _ => trivial) ?_ ?_ L0 _ ⟨[], none, none, hp, (fun g hg => nomatch hg), by simpa using hl, rfl, rfl⟩
    · rintro g r _ K2 hK2 ⟨L, z2, z3, hr, hL, hlen, he, rfl⟩
      rw [List.length_cons] at hlen
      have hg := hr g List.mem_cons_self
      have hr' := fun y hy => hr y (List.mem_cons_of_mem g hy)
      rw [List.foldl_cons] at he
      have hL' : ∀ y ∈ insK L g, Pg y := fun y hy => by
        rcases insK_mem.mp hy with h | h
        · exact hL y h
        · rw [h]
          exact hg
      have hlen' := insK_len L g
      have cnd : ∀ K : Bool → M → Prop, K (!decide (g ∈ L)) (S L (some (.d (hpD g))) z3) → dTest (dOp (rIn true) (dVar 2) (dVar 1)) (S L (some (.d (hpD g))) z3) K := fun K hK => by
        refine onV_c (getElem_last _ _) ⟨sh_ok sh_hp, sh_hps, ?_⟩
        show K (!((L.map hpD).any fun z => eqD z (hpD g))) _
        rw [any_hp]
        exact hK
      by_cases c : g ∈ L
      · rw [decide_eq_true c] at cnd
        have ei : insK L g = L := by unfold insK; rw [if_pos c]
        rw [ei] at he
        refine guard_end (fun m => m = S L (some (.d (hpD g))) z3) (fun K hK => cnd K (hK _ rfl)) ?_
        rintro _ rfl
        exact hK2 _ ⟨L, _, _, hr', hL, by omega, he, rfl⟩
      · rw [decide_eq_false c] at cnd
        refine ifs_t (S L (some (.d (hpD g))) z3) (fun K hK => cnd K hK) ?_
        obtain ⟨j, ej⟩ : ∃ j, (L.filter fun y => befK y g).length = j := ⟨_, rfl⟩
        have hj : j ≤ L.length := by
          rw [← ej]
          exact List.length_filter_le _ _
        have ei : insK L g = L.take j ++ [g] ++ L.drop j := by unfold insK; rw [if_neg c, ej]
        refine seq_to (S L (some (.d (hpD g))) (some (.d (.int j)))) (fun K hK => ?_) ?_
        · show onC (st ++ [Cell.lst (L.map hpD)]) st.length _
          refine onC_mk (getElem_last _ _) ?_
          refine filt_ownM (f := hpD) (p := fun y => befK y g) (i := 4) ?_ ?_ L [] (fun y hy P hP => ?_) ?_ ?_
          · exact getElem_last _ _
          · exact Nat.lt_of_sub_eq_succ rfl
          · exact before_ok (hL y hy) hg hP
          · rw [List.length_nil]
            omega
          · rw [List.nil_append]
            show K ⟨[_, _, _, some (.d (.int (((L.filter fun y => befK y g).map hpD).length : Int))), _], _⟩
            rw [List.length_map, ej]
            exact hK
        · refine ⟨⟨_, getElem_last _ _⟩, onC_mk (getElem_last _ _) ⟨?_, ?_, ?_, ?_⟩⟩
          · rw [List.length_map]
            show L.length < 16777216
            omega
          · omega
          · have : (j : Int) ≤ 10000 := by omega
            exact Int.lt_of_le_of_lt this (by decide)
          · refine hK2 _ ⟨insK L g, _, _, hr', hL', by omega, he, congrArg (M.mk _) ?_⟩
            show (st ++ [_]).set st.length _ = st ++ [_]
            rw [set_last, ei, List.map_append, List.map_append, List.map_take, List.map_drop, Int.toNat_natCast]
            rfl
    · rintro _ ⟨L, z2, z3, _, _, _, he, rfl⟩
      have he' : L = inOrd L0 := he
      exact hK _ ⟨z2, z3, by rw [he']⟩
  rintro _ ⟨z2, z3, rfl⟩
  refine Eq.mp (if_neg (Nat.lt_irrefl _)).symm (onC_mk (getElem_last _ _) ?_)
  show Q _ ((st ++ [_]).take st.length)
  rw [List.take_left]
  exact h
end
end PG

set_option maxRecDepth 100000
set_option maxHeartbeats 4000000
namespace PG
open PySem PySem.Spec PyProof.Rows L2 RT
theorem num_le {n d : Int} : (Rat.divInt n d).num.natAbs ≤ n.natAbs := by
  rw [Rat.num_divInt]
  have : (d.sign * n / (d.gcd n : Int)).natAbs ≤ (d.sign * n).natAbs := Int.natAbs_ediv_le_natAbs ..
  rw [Int.natAbs_mul] at this
  have h2 : d.sign.natAbs ≤ 1 := by
    rcases Int.lt_trichotomy d 0 with h | h | h
    · rw [Int.sign_eq_neg_one_of_neg h]
      decide
    · rw [h]
      decide
    · rw [Int.sign_eq_one_of_pos h]
      decide
  have := Nat.mul_le_mul_right n.natAbs h2
  omega
theorem den_le {n d : Int} (hd : d ≠ 0) : (Rat.divInt n d).den ≤ d.natAbs := by
  rw [Rat.den_divInt, if_neg hd]
  exact Nat.div_le_self ..
def Fr (r : Rat) : Prop := ∃ n d : Int, r = Rat.divInt n d ∧ 0 < d ∧ d ≤ 3 ∧ n.natAbs ≤ 30
theorem Fr.nd {r : Rat} : Fr r → r.num.natAbs ≤ 30 ∧ r.den ≤ 3 := fun ⟨n, d, e, h1, h2, h3⟩ => by
  rw [e]
  have := num_le (n := n) (d := d)
  have := den_le (n := n) (d := d) (by omega)
  omega
theorem gcd3_div {x y z : Int} (h : ¬ (x = 0 ∧ y = 0)) : gcd3 (x / gcd3 x y z) (y / gcd3 x y z) (z / gcd3 x y z) = 1 := by
  have g0 := gcd3_pos (r := z) h
  obtain ⟨d1, d2, d3⟩ := gcd3_dvd x y z
  obtain ⟨d, ed⟩ : ∃ d, gcd3 x y z = d := ⟨_, rfl⟩
  rw [ed] at d1 d2 d3 g0 ⊢
  obtain ⟨x', rfl⟩ := d1
  obtain ⟨y', rfl⟩ := d2
  obtain ⟨z', rfl⟩ := d3
  rw [Int.mul_ediv_cancel_left _ (by omega), Int.mul_ediv_cancel_left _ (by omega), Int.mul_ediv_cancel_left _ (by omega)]
  unfold gcd3 at ed ⊢
  rw [Int.gcd_mul_left] at ed
  have e2 : (Int.gcd (((d.natAbs * Int.gcd x' y' : Nat) : Int)) (d * z') : Int) = d.natAbs * (Int.gcd (Int.gcd x' y' : Int) z' : Int) := by
    have : ((d.natAbs * Int.gcd x' y' : Nat) : Int) = d * (Int.gcd x' y' : Int) := by
      rw [Int.natCast_mul]
      congr 1
      omega
    rw [this, Int.gcd_mul_left, Int.natCast_mul]
  rw [e2] at ed
  have hd : (d.natAbs : Int) = d := by omega
  rw [hd] at ed
  have : d * (Int.gcd (Int.gcd x' y' : Int) z' : Int) = d * 1 := by omega
  exact Int.eq_of_mul_eq_mul_left (by omega) this
theorem gcd3_neg {x y z : Int} : gcd3 (-x) (-y) (-z) = gcd3 x y z := by
  unfold gcd3
  rw [Int.gcd_neg, Int.neg_gcd, Int.gcd_neg]
theorem oppH_pg {g : Hp3} (h : Pg g) : Pg (oppH g) := by
  obtain ⟨d, e, h1, h2, h3⟩ := h
  unfold oppH
  exact ⟨fun ⟨x, y⟩ => d ⟨by dsimp only at x; omega, by dsimp only at y; omega⟩, by dsimp only; rw [gcd3_neg]; exact e, by dsimp only; omega, by dsimp only; omega, by dsimp only; omega⟩
section
variable {st : List Cell} {Q : Vl → List Cell → Prop}
end
end PG

set_option maxRecDepth 100000
set_option maxHeartbeats 4000000
namespace PG
open PySem PySem.Spec PyProof.Rows L2 RT
theorem Fr.zb {r : Rat} (h : Fr r) : zb r ≤ 20 := by
  obtain ⟨n, d, rfl, h1, h2, h3⟩ := h
  exact divI_z (by omega) (by omega) (by omega)
section
variable {st : List Cell} {Q : Vl → List Cell → Prop}
theorem lfraction4_ok {ds : List Int} {i k : Nat} (hk : st[k]? = some (Bx ds i)) (hi : i < 900000) (h : ∀ r : Rat, (∃ n d : Int, r = Rat.divInt n d ∧ 0 < d ∧ d ≤ 3 ∧ n.natAbs ≤ 4) → Q (.d (fr r)) (st.set k (Bx ds (i + 2)))) : sp__law_fraction [.c k] st Q := by
  have hlt : k < st.length := (List.getElem?_eq_some_iff.mp hk).1
  have hs : ∀ c : Cell, (st.set k c)[k]? = some c := fun c => by simp [hlt]
  have hl : ∀ c : Cell, (st.set k c).length = st.length := fun c => List.length_set
  unfold sp__law_fraction
  refine ⟨rfl, draw2_ok hk (by decide) (by omega) fun a a0 a1 => ⟨trivial, slt rfl, ?_⟩⟩
  refine draw2_ok (hs _) (by decide) (by omega) fun b b0 b1 => ?_
  rw [List.set_set]
  have hb : ∃ d : Int, atI [Dt.int 1, .int 1, .int 2, .int 3] b = some (.int d) ∧ 0 < d ∧ d ≤ 3 := by
    have : b = 0 ∨ b = 1 ∨ b = 2 ∨ b = 3 := by omega
    rcases this with rfl | rfl | rfl | rfl
    · exact ⟨1, rfl, by decide, by decide⟩
    · exact ⟨1, rfl, by decide, by decide⟩
    · exact ⟨2, rfl, by decide, by decide⟩
    · exact ⟨3, rfl, by decide, by decide⟩
  obtain ⟨d, e, d0, d1⟩ := hb
  refine rIx_mk e ?_
  refine lfrac_ok (by omega) ?_
  rw [← hl (Bx ds (i + 2))]
  exact tk (h _ ⟨a - 4, d, rfl, d0, d1, by omega⟩)
end
end PG

set_option maxRecDepth 100000
set_option maxHeartbeats 4000000
namespace PG
open PySem PySem.Spec PyProof.Rows L2 RT

section
variable {ds : List Int} {i k : Nat} {st : List Cell} {Q : Vl → List Cell → Prop}
end
end PG

set_option maxRecDepth 100000
set_option maxHeartbeats 4000000
namespace PG
open PySem PySem.Spec PyProof.Rows L2 RT
def Ez (n : Nat) : El → Prop
  | .gap g => zb g ≤ n
  | .lens p c => zb p ≤ n ∧ zb c ≤ n
  | .prism d => zb d ≤ n
  | .afocal m => zb m ≤ n ∧ m ≠ 0
  | .stop _ _ => True
section
variable {st : List Cell} {Q : Vl → List Cell → Prop}
end
end PG

set_option maxRecDepth 100000
set_option maxHeartbeats 4000000
namespace PG
open PySem PySem.Spec PyProof.Rows L2 RT
section
variable {ds : List Int} {i k : Nat} {st : List Cell} {Q : Vl → List Cell → Prop}
end
end PG

set_option maxRecDepth 100000
set_option maxHeartbeats 4000000
namespace PG
open PySem PySem.Spec PyProof.Rows L2 RT

end PG

set_option maxRecDepth 100000
set_option maxHeartbeats 4000000
namespace PG
open PySem PySem.Spec PyProof.Rows L2 RT
section
variable {st : List Cell} {Q : Vl → List Cell → Prop}
end
end PG

set_option maxRecDepth 100000
set_option maxHeartbeats 4000000
namespace PG
open PySem PySem.Spec PyProof.Rows L2 RT

structure Sx (k W : Nat) (d : Dt) : Prop where
  shw : (toPy d).showable = true
  itg : (toPy d).intsShort 250 = true
  lay : (toPy d).canLay0 = true
  dep : (toPy d).depth ≤ k
  wt : (toPy d).weight ≤ W
theorem Sx.le {k W k' W' : Nat} {d : Dt} (h : Sx k W d) (h1 : k ≤ k') (h2 : W ≤ W') : Sx k' W' d := ⟨h.shw, h.itg, h.lay, Nat.le_trans h.dep h1, Nat.le_trans h.wt h2⟩
theorem Sx.shows {k W : Nat} {d : Dt} (h : Sx k W d) (hk : k ≤ 60) (hW : W ≤ 60000) : shows d := by
  refine ⟨h.shw, Nat.le_trans h.dep hk, ?_⟩
  have h2 := PyData.shown_le 250 (by decide) (toPy d) (PyData.leavesShort_of_canLay0 250 (toPy d) h.lay h.itg)
  have := h.wt
  show (toPy d).shown.length ≤ 16777216
  omega
end PG

set_option maxRecDepth 100000
set_option maxHeartbeats 4000000

namespace PG
open PySem PySem.Spec PyProof.Rows L2 RT
section
variable {x y : Rat} {st : List Cell} {Q : Vl → List Cell → Prop}
end
section
variable {ds : List Int} {i k : Nat} {st : List Cell} {Q : Vl → List Cell → Prop}
end
section
variable {st : List Cell} {Q : Vl → List Cell → Prop}
end
end PG

set_option maxRecDepth 100000
set_option maxHeartbeats 4000000

namespace PG
open PySem PySem.Spec PyProof.Rows L2 RT
structure Pup where
  i : Nat
  d : Option Rat
  lo : Option Rat
  hi : Option Rat
section
variable {st : List Cell} {Q : Vl → List Cell → Prop}
end
end PG

set_option maxRecDepth 100000
set_option maxHeartbeats 4000000

namespace PG
open PySem PySem.Spec PyProof.Rows L2 RT
structure PupZ (n : Nat) (p : Pup) : Prop where
  d : Zo n p.d
  lo : Zo n p.lo
  hi : Zo n p.hi
section
variable {st : List Cell} {Q : Vl → List Cell → Prop}
end
end PG

set_option maxRecDepth 100000
set_option maxHeartbeats 4000000
namespace PG
open PySem PySem.Spec PyProof.Rows L2 RT

theorem least_go : ∀ (l : List (Option Rat)) (b : Option Rat), match l.foldl (bstep fun x y => x < y) b with
    | none => b = none ∧ ∀ o ∈ l, o = none
    | some s => (b = some s ∨ some s ∈ l) ∧ (∀ y, b = some y → s ≤ y) ∧ ∀ y, some y ∈ l → s ≤ y
  | [], none => ⟨rfl, fun _ h => nomatch h⟩
  | [], some b => ⟨.inl rfl, fun y e => by cases e; exact Rat.le_refl, fun _ h => nomatch h⟩
  | o :: l, b => by
    rw [List.foldl_cons]
    have ih := least_go l (bstep (fun x y => x < y) b o)
    cases hr : l.foldl (bstep fun x y => x < y) (bstep (fun x y => x < y) b o) with
    | none =>
      rw [hr] at ih
      obtain ⟨h1, h2⟩ := ih
      cases o with
      | none => exact ⟨h1, fun o ho => by
          rcases List.mem_cons.mp ho with e | e
          · exact e
          · exact h2 o e⟩
      | some x =>
        cases b with
        | none => cases h1
        | some y =>
          unfold bstep at h1
          dsimp only at h1
          split at h1 <;> cases h1
    | some s =>
      rw [hr] at ih
      obtain ⟨h1, h2, h3⟩ := ih
      cases o with
      | none =>
        refine ⟨?_, h2, fun y hy => ?_⟩
        · rcases h1 with h | h
          · exact .inl h
          · exact .inr (List.mem_cons_of_mem _ h)
        · rcases List.mem_cons.mp hy with e | e
          · cases e
          · exact h3 y e
      | some x =>
        cases b with
        | none =>
          refine ⟨?_, (fun y e => nomatch e), fun y hy => ?_⟩
          · rcases h1 with h | h
            · cases h
              exact .inr List.mem_cons_self
            · exact .inr (List.mem_cons_of_mem _ h)
          · rcases List.mem_cons.mp hy with e | e
            · cases e
              exact h2 x rfl
            · exact h3 y e
        | some z =>
          unfold bstep at h1 h2
          dsimp only at h1 h2
          by_cases c : x < z
          · rw [if_pos c] at h1 h2
            refine ⟨?_, fun y e => ?_, fun y hy => ?_⟩
            · rcases h1 with h | h
              · cases h
                exact .inr List.mem_cons_self
              · exact .inr (List.mem_cons_of_mem _ h)
            · cases e
              have := h2 x rfl
              grind
            · rcases List.mem_cons.mp hy with e | e
              · cases e
                exact h2 x rfl
              · exact h3 y e
          · rw [if_neg c] at h1 h2
            refine ⟨?_, fun y e => ?_, fun y hy => ?_⟩
            · rcases h1 with h | h
              · exact .inl h
              · exact .inr (List.mem_cons_of_mem _ h)
            · exact h2 y e
            · rcases List.mem_cons.mp hy with e | e
              · cases e
                have := h2 z rfl
                grind
              · exact h3 y e
theorem least_none {l : List (Option Rat)} (h : least l = none) : ∀ o ∈ l, o = none := by
  have := least_go l none
  unfold least at h
  rw [h] at this
  exact this.2
theorem least_some {l : List (Option Rat)} {s : Rat} (h : least l = some s) : some s ∈ l ∧ ∀ y, some y ∈ l → s ≤ y := by
  have := least_go l none
  unfold least at h
  rw [h] at this
  exact ⟨this.1.resolve_left (fun e => nomatch e), this.2.2⟩
theorem greatest_neg : ∀ (l : List (Option Rat)) (b : Option Rat), (l.foldl (bstep fun x y => y < x) b).map (-·) = (l.map (Option.map (-·))).foldl (bstep fun x y => x < y) (b.map (-·))
  | [], _ => rfl
  | o :: l, b => by
    rw [List.map_cons, List.foldl_cons, List.foldl_cons, greatest_neg l]
    congr 1
    cases o with
    | none => rfl
    | some x =>
      cases b with
      | none => rfl
      | some y =>
        unfold bstep
        dsimp only [Option.map_some]
        by_cases c : y < x
        · rw [if_pos c, if_pos (by grind)]
          rfl
        · rw [if_neg c, if_neg (by grind)]
          rfl
theorem greatest_none {l : List (Option Rat)} (h : greatest l = none) : ∀ o ∈ l, o = none := fun o ho => by
  have e := greatest_neg l none
  unfold greatest at h
  rw [h] at e
  have := least_none (show least (l.map (Option.map (-·))) = none from e.symm) _ (List.mem_map.mpr ⟨o, ho, rfl⟩)
  cases o with
  | none => rfl
  | some x => cases this
theorem greatest_some {l : List (Option Rat)} {s : Rat} (h : greatest l = some s) : some s ∈ l ∧ ∀ y, some y ∈ l → y ≤ s := by
  have e := greatest_neg l none
  unfold greatest at h
  rw [h] at e
  obtain ⟨h1, h2⟩ := least_some (show least (l.map (Option.map (-·))) = some (-s) from e.symm)
  obtain ⟨o, ho, eo⟩ := List.mem_map.mp h1
  refine ⟨?_, fun y hy => ?_⟩
  · cases o with
    | none => cases eo
    | some x =>
      have : -x = -s := Option.some.inj eo
      have : x = s := by grind
      rw [← this]
      exact ho
  · have := h2 (-y) (List.mem_map.mpr ⟨some y, hy, rfl⟩)
    grind

def supF (p q : Rat) (hs : List Hp3) : Option Rat := if p = 0 ∧ q = 0 then some 0 else least (bounds p q hs)
def infF (p q : Rat) (hs : List Hp3) : Option Rat := (supF (-p) (-q) hs).map (-·)
def IsSup (p q : Rat) (hs : List Hp3) (o : Option Rat) : Prop := match o with
  | none => ∀ m, ∃ x, Rg hs x ∧ m ≤ lin2 p q x
  | some s => (∀ x, Rg hs x → lin2 p q x ≤ s) ∧ ∃ x, Rg hs x ∧ lin2 p q x = s
theorem IsSup.unique {p q : Rat} {hs : List Hp3} : ∀ {o o' : Option Rat}, IsSup p q hs o → IsSup p q hs o' → o = o'
  | none, none, _, _ => rfl
  | none, some s, h, h' => by
    obtain ⟨x, hx, e⟩ := h (s + 1)
    have := h'.1 x hx
    grind
  | some s, none, h, h' => by
    obtain ⟨x, hx, e⟩ := h' (s + 1)
    have := h.1 x hx
    grind
  | some s, some t, h, h' => by
    obtain ⟨x, hx, e⟩ := h.2
    obtain ⟨y, hy, e'⟩ := h'.2
    have a := h.1 y hy
    have b := h'.1 x hx
    have : s = t := by grind
    rw [this]
theorem lin0 (x : Ray) : lin2 0 0 x = 0 := by
  unfold lin2
  grind
theorem sup_is {p q : Rat} {hs : List Hp3} (hd : ∀ g ∈ hs, Dir g) {x0 : Ray} (hx : Rg hs x0) : IsSup p q hs (supF p q hs) := by
  unfold supF
  by_cases c : p = 0 ∧ q = 0
  · rw [if_pos c]
    obtain ⟨rfl, rfl⟩ := c
    exact ⟨fun x _ => by rw [lin0]; exact Rat.le_refl, x0, hx, lin0 x0⟩
  · rw [if_neg c]
    cases e : least (bounds p q hs) with
    | none =>
      intro m
      have hn := least_none e
      rcases Rat.le_total (a := m) (b := lin2 p q x0) with z | z
      · exact ⟨x0, hx, z⟩
      · obtain ⟨x, hx, e⟩ := reach c hd hx (m := m) z (fun b hb => nomatch hn _ hb)
        exact ⟨x, hx, by rw [e]; exact Rat.le_refl⟩
    | some s =>
      obtain ⟨h1, h2⟩ := least_some e
      exact ⟨fun x hx => bound_ok hd hx h1, reach c hd hx (bound_ok hd hx h1) h2⟩
end PG

set_option maxRecDepth 100000
set_option maxHeartbeats 4000000

namespace PG
open PySem PySem.Spec PyProof.Rows L2 RT
abbrev Rng := Option (Option Rat × Option Rat)
def inR (lo hi : Option Rat) (x : Rat) : Prop := (∀ l, lo = some l → l ≤ x) ∧ (∀ u, hi = some u → x ≤ u)
def IsRng (S : Rat → Prop) : Rng → Prop
  | none => ∀ x, ¬ S x
  | some o => (∀ x, S x ↔ inR o.1 o.2 x) ∧ ∃ x, S x
theorem up_le {lo hi hi' : Option Rat} {x : Rat} (h : inR lo hi' x) (hh : ∀ y, inR lo hi' y → ∀ u, hi = some u → y ≤ u) : ∀ u, hi = some u → ∃ u', hi' = some u' ∧ u' ≤ u := fun u e => by
  cases hi' with
  | none =>
    have h1 : x ≤ x + (if u ≤ x then 1 else u - x + 1) := by split <;> grind
    have := hh (x + (if u ≤ x then 1 else u - x + 1)) ⟨fun l el => Rat.le_trans (h.1 l el) h1, fun u e => nomatch e⟩ u e
    split at this <;> grind
  | some u' =>
    exact ⟨u', rfl, hh u' ⟨fun l el => Rat.le_trans (h.1 l el) (h.2 u' rfl), fun v e => by cases e; exact Rat.le_refl⟩ u e⟩
theorem lo_le {lo lo' hi : Option Rat} {x : Rat} (h : inR lo' hi x) (hh : ∀ y, inR lo' hi y → ∀ l, lo = some l → l ≤ y) : ∀ l, lo = some l → ∃ l', lo' = some l' ∧ l ≤ l' := fun l e => by
  cases lo' with
  | none =>
    have h1 : x - (if x < l then 1 else x - l + 1) ≤ x := by split <;> grind
    have := hh (x - (if x < l then 1 else x - l + 1)) ⟨fun u e => (nomatch e), fun u eu => Rat.le_trans h1 (h.2 u eu)⟩ l e
    split at this <;> grind
  | some l' =>
    exact ⟨l', rfl, hh l' ⟨fun v e => by cases e; exact Rat.le_refl, fun u eu => Rat.le_trans (h.1 l' rfl) (h.2 u eu)⟩ l e⟩
theorem opt_up {a b : Option Rat} (h1 : ∀ u, a = some u → ∃ u', b = some u' ∧ u' ≤ u) (h2 : ∀ u, b = some u → ∃ u', a = some u' ∧ u' ≤ u) : a = b := by
  cases a with
  | none =>
    cases b with
    | none => rfl
    | some v => obtain ⟨w, e, _⟩ := h2 v rfl; cases e
  | some u =>
    obtain ⟨v, e, hv⟩ := h1 u rfl
    rw [e] at h2 ⊢
    obtain ⟨w, e2, hw⟩ := h2 v rfl
    cases e2
    exact congrArg some (Rat.le_antisymm hw hv)
theorem opt_lo {a b : Option Rat} (h1 : ∀ u, a = some u → ∃ u', b = some u' ∧ u ≤ u') (h2 : ∀ u, b = some u → ∃ u', a = some u' ∧ u ≤ u') : a = b := by
  cases a with
  | none =>
    cases b with
    | none => rfl
    | some v => obtain ⟨w, e, _⟩ := h2 v rfl; cases e
  | some u =>
    obtain ⟨v, e, hv⟩ := h1 u rfl
    rw [e] at h2 ⊢
    obtain ⟨w, e2, hw⟩ := h2 v rfl
    cases e2
    exact congrArg some (Rat.le_antisymm hv hw)
theorem IsRng.unique {S : Rat → Prop} : ∀ {a b : Rng}, IsRng S a → IsRng S b → a = b
  | none, none, _, _ => rfl
  | none, some o, h1, h2 => by obtain ⟨x, hx⟩ := h2.2; exact absurd hx (h1 x)
  | some o, none, h1, h2 => by obtain ⟨x, hx⟩ := h1.2; exact absurd hx (h2 x)
  | some (lo, hi), some (lo', hi'), h1, h2 => by
    obtain ⟨x, hx⟩ := h1.2
    have a : ∀ y, inR lo hi y → inR lo' hi' y := fun y hy => (h2.1 y).mp ((h1.1 y).mpr hy)
    have b : ∀ y, inR lo' hi' y → inR lo hi y := fun y hy => (h1.1 y).mp ((h2.1 y).mpr hy)
    have xa := (h1.1 x).mp hx
    have xb := a x xa
    have e1 : lo = lo' := opt_lo (lo_le xb fun y hy => (b y hy).1) (lo_le xa fun y hy => (a y hy).1)
    have e2 : hi = hi' := opt_up (up_le xb fun y hy => (b y hy).2) (up_le xa fun y hy => (a y hy).2)
    rw [e1, e2]
theorem IsRng.congr {S T : Rat → Prop} (h : ∀ x, S x ↔ T x) : ∀ {o : Rng}, IsRng S o → IsRng T o
  | none, hs => fun x hx => hs x ((h x).mpr hx)
  | some o, hs => ⟨fun x => (h x).symm.trans (hs.1 x), hs.2.elim fun x hx => ⟨x, (h x).mp hx⟩⟩

def badR (r : Rat × Rat) : Bool := decide (r.1 = 0) && decide (r.2 < 0)
def ups (rows : List (Rat × Rat)) : List Rat := (rows.filter fun r => decide (0 < r.1)).map fun r => r.2 / r.1
def los (rows : List (Rat × Rat)) : List Rat := (rows.filter fun r => decide (r.1 < 0)).map fun r => r.2 / r.1
def crossed : Option Rat → Option Rat → Bool
  | some l, some u => decide (u < l)
  | _, _ => false
def rngOf (lo hi : Option Rat) : Rng := if crossed lo hi = true then none else some (lo, hi)
def rowsR (rows : List (Rat × Rat)) : Rng := if rows.any badR = true then none else rngOf (greatest ((los rows).map some)) (least ((ups rows).map some))
theorem mdc {u w : Rat} (h : u ≠ 0) : w = u * (w / u) := by rw [Rat.mul_comm, Rat.div_mul_cancel h]
theorem div_up {u w x : Rat} (h : 0 < u) : u * x ≤ w ↔ x ≤ w / u := by
  have e : w = u * (w / u) := mdc (by grind)
  generalize w / u = t at *
  constructor
  · intro h2
    rw [e] at h2
    exact Rat.le_of_mul_le_mul_left h2 h
  · intro h2
    rw [e]
    exact Rat.mul_le_mul_of_nonneg_left h2 (Rat.le_of_lt h)
theorem div_lo {u w x : Rat} (h : u < 0) : u * x ≤ w ↔ w / u ≤ x := by
  have e : w = u * (w / u) := mdc (by grind)
  generalize w / u = t at *
  constructor
  · intro h2
    rw [e] at h2
    have : (-u) * t ≤ (-u) * x := by
      rw [Rat.neg_mul, Rat.neg_mul]
      exact Rat.neg_le_neg h2
    exact Rat.le_of_mul_le_mul_left this (by grind)
  · intro h2
    rw [e]
    have := Rat.mul_le_mul_of_nonneg_left h2 (show (0 : Rat) ≤ -u by grind)
    grind
theorem rows_iff {rows : List (Rat × Rat)} (hb : ¬ rows.any badR = true) (x : Rat) : (∀ r ∈ rows, r.1 * x ≤ r.2) ↔ (∀ a ∈ ups rows, x ≤ a) ∧ ∀ b ∈ los rows, b ≤ x := by
  constructor
  · intro h
    refine ⟨fun a ha => ?_, fun b hb => ?_⟩
    · obtain ⟨r, hr, rfl⟩ := List.mem_map.mp ha
      obtain ⟨h1, h2⟩ := List.mem_filter.mp hr
      exact (div_up (of_decide_eq_true h2)).mp (h r h1)
    · obtain ⟨r, hr, rfl⟩ := List.mem_map.mp hb
      obtain ⟨h1, h2⟩ := List.mem_filter.mp hr
      exact (div_lo (of_decide_eq_true h2)).mp (h r h1)
  · rintro ⟨h1, h2⟩ r hr
    by_cases c : 0 < r.1
    · exact (div_up c).mpr (h1 _ (List.mem_map.mpr ⟨r, List.mem_filter.mpr ⟨hr, decide_eq_true c⟩, rfl⟩))
    by_cases c2 : r.1 < 0
    · exact (div_lo c2).mpr (h2 _ (List.mem_map.mpr ⟨r, List.mem_filter.mpr ⟨hr, decide_eq_true c2⟩, rfl⟩))
    have e : r.1 = 0 := by grind
    have : ¬ badR r = true := fun z => hb (List.any_eq_true.mpr ⟨r, hr, z⟩)
    have : ¬ r.2 < 0 := fun z => this (by unfold badR; rw [decide_eq_true e, decide_eq_true z]; rfl)
    rw [e]
    grind
theorem least_up {l : List Rat} {x : Rat} : (∀ a ∈ l, x ≤ a) ↔ ∀ u, least (l.map some) = some u → x ≤ u := by
  constructor
  · intro h u e
    obtain ⟨m, _⟩ := least_some e
    obtain ⟨a, ha, e2⟩ := List.mem_map.mp m
    cases e2
    exact h u ha
  · intro h a ha
    cases e : least (l.map some) with
    | none => exact absurd (least_none e (some a) (List.mem_map.mpr ⟨a, ha, rfl⟩)) (by simp)
    | some u => exact Rat.le_trans (h u e) ((least_some e).2 a (List.mem_map.mpr ⟨a, ha, rfl⟩))
theorem greatest_lo {l : List Rat} {x : Rat} : (∀ a ∈ l, a ≤ x) ↔ ∀ u, greatest (l.map some) = some u → u ≤ x := by
  constructor
  · intro h u e
    obtain ⟨m, _⟩ := greatest_some e
    obtain ⟨a, ha, e2⟩ := List.mem_map.mp m
    cases e2
    exact h u ha
  · intro h a ha
    cases e : greatest (l.map some) with
    | none => exact absurd (greatest_none e (some a) (List.mem_map.mpr ⟨a, ha, rfl⟩)) (by simp)
    | some u => exact Rat.le_trans ((greatest_some e).2 a (List.mem_map.mpr ⟨a, ha, rfl⟩)) (h u e)
theorem rngOf_is {S : Rat → Prop} {lo hi : Option Rat} (h : ∀ x, S x ↔ inR lo hi x) : IsRng S (rngOf lo hi) := by
  unfold rngOf
  cases lo with
  | none =>
    rw [if_neg (by cases hi <;> exact Bool.false_ne_true)]
    refine ⟨h, ?_⟩
    cases hi with
    | none => exact ⟨0, (h 0).mpr ⟨fun _ e => (nomatch e), fun _ e => nomatch e⟩⟩
    | some u => exact ⟨u, (h u).mpr ⟨fun _ e => (nomatch e), fun _ e => by cases e; exact Rat.le_refl⟩⟩
  | some l =>
    cases hi with
    | none =>
      rw [if_neg (show ¬ crossed (some l) none = true from Bool.false_ne_true)]
      exact ⟨h, l, (h l).mpr ⟨fun _ e => by cases e; exact Rat.le_refl, fun _ e => nomatch e⟩⟩
    | some u =>
      by_cases c : u < l
      · rw [if_pos (show crossed (some l) (some u) = true from decide_eq_true c)]
        intro x hx
        obtain ⟨h1, h2⟩ := (h x).mp hx
        have := h1 l rfl
        have := h2 u rfl
        grind
      · rw [if_neg (show ¬ crossed (some l) (some u) = true from fun z => c (of_decide_eq_true z))]
        exact ⟨h, l, (h l).mpr ⟨fun _ e => by cases e; exact Rat.le_refl, fun _ e => by cases e; grind⟩⟩
theorem rowsR_is (rows : List (Rat × Rat)) : IsRng (fun x => ∀ r ∈ rows, r.1 * x ≤ r.2) (rowsR rows) := by
  unfold rowsR
  by_cases hb : rows.any badR = true
  · rw [if_pos hb]
    intro x hx
    obtain ⟨r, hr, h⟩ := List.any_eq_true.mp hb
    unfold badR at h
    rw [Bool.and_eq_true, decide_eq_true_eq, decide_eq_true_eq] at h
    have := hx r hr
    rw [h.1] at this
    grind
  · rw [if_neg hb]
    refine rngOf_is fun x => ?_
    rw [rows_iff hb x, least_up, greatest_lo]
    exact And.comm

abbrev Ln := Rat × Rat × Rat
def combo (a b : Ln) : Ln := (a.1 + -(a.2.1 / b.2.1) * b.1, 0, a.2.2 + -(a.2.1 / b.2.1) * b.2.2)
def flat (ls : List Ln) : List Ln := ls.filter fun l => decide (l.2.1 = 0)
def posL (ls : List Ln) : List Ln := ls.filter fun l => decide (0 < l.2.1)
def negL (ls : List Ln) : List Ln := ls.filter fun l => decide (l.2.1 < 0)
def rowsL (ls : List Ln) : List Ln := flat ls ++ (posL ls).flatMap fun a => (negL ls).map (combo a)
def satL (x y : Rat) (l : Ln) : Prop := l.1 * x + l.2.1 * y ≤ l.2.2
theorem mid_ex {A B : List Rat} (h : ∀ a ∈ A, ∀ b ∈ B, b ≤ a) : ∃ y : Rat, (∀ a ∈ A, y ≤ a) ∧ ∀ b ∈ B, b ≤ y := by
  cases e : greatest (B.map some) with
  | none =>
    have hB : ∀ b ∈ B, False := fun b hb => absurd (greatest_none e (some b) (List.mem_map.mpr ⟨b, hb, rfl⟩)) (by simp)
    cases e2 : least (A.map some) with
    | none => exact ⟨0, fun a ha => absurd (least_none e2 (some a) (List.mem_map.mpr ⟨a, ha, rfl⟩)) (by simp), fun b hb => (hB b hb).elim⟩
    | some u => exact ⟨u, fun a ha => (least_some e2).2 a (List.mem_map.mpr ⟨a, ha, rfl⟩), fun b hb => (hB b hb).elim⟩
  | some l =>
    obtain ⟨m, hm⟩ := greatest_some e
    obtain ⟨b, hb, e2⟩ := List.mem_map.mp m
    cases e2
    exact ⟨l, fun a ha => h a ha l hb, fun b hb => hm b (List.mem_map.mpr ⟨b, hb, rfl⟩)⟩
theorem combo_le {a b : Ln} {x : Rat} (ha : 0 < a.2.1) (hb : b.2.1 < 0) : (combo a b).1 * x ≤ (combo a b).2.2 ↔ (b.2.2 - b.1 * x) / b.2.1 ≤ (a.2.2 - a.1 * x) / a.2.1 := by
  obtain ⟨u1, v1, w1⟩ := a
  obtain ⟨u2, v2, w2⟩ := b
  dsimp only [combo] at *
  have e1 : (w1 - u1 * x) = v1 * ((w1 - u1 * x) / v1) := mdc (by grind)
  have e2 : (w2 - u2 * x) = v2 * ((w2 - u2 * x) / v2) := mdc (by grind)
  generalize (w1 - u1 * x) / v1 = s at *
  generalize (w2 - u2 * x) / v2 = t at *
  have e3 : v1 = (v1 / v2) * v2 := by rw [Rat.div_mul_cancel (by grind)]
  generalize v1 / v2 = k at *
  have key : (w1 + -k * w2) - (u1 + -k * u2) * x = v1 * (s - t) := by
    have : w1 = v1 * s + u1 * x := by grind
    have : w2 = v2 * t + u2 * x := by grind
    grind
  constructor
  · intro h
    have : 0 ≤ v1 * (s - t) := by grind
    by_cases c : t ≤ s
    · exact c
    · have := Rat.mul_lt_mul_of_pos_left (Rat.not_le.mp c) ha
      grind
  · intro h
    have := Rat.mul_le_mul_of_nonneg_left h (Rat.le_of_lt ha)
    grind
theorem elim_iff (ls : List Ln) (x : Rat) : (∃ y, ∀ l ∈ ls, satL x y l) ↔ ∀ r ∈ rowsL ls, r.1 * x ≤ r.2.2 := by
  have hup : ∀ {l : Ln} {y : Rat}, 0 < l.2.1 → (satL x y l ↔ y ≤ (l.2.2 - l.1 * x) / l.2.1) := fun {l y} h => by
    rw [← div_up h]
    unfold satL
    constructor <;> intro <;> grind
  have hlo : ∀ {l : Ln} {y : Rat}, l.2.1 < 0 → (satL x y l ↔ (l.2.2 - l.1 * x) / l.2.1 ≤ y) := fun {l y} h => by
    rw [← div_lo h]
    unfold satL
    constructor <;> intro <;> grind
  constructor
  · rintro ⟨y, h⟩ r hr
    rcases List.mem_append.mp hr with hr | hr
    · obtain ⟨h1, h2⟩ := List.mem_filter.mp hr
      have := h r h1
      unfold satL at this
      rw [of_decide_eq_true h2] at this
      grind
    · obtain ⟨a, ha, hr⟩ := List.mem_flatMap.mp hr
      obtain ⟨b, hb, rfl⟩ := List.mem_map.mp hr
      obtain ⟨h1, h2⟩ := List.mem_filter.mp ha
      obtain ⟨h3, h4⟩ := List.mem_filter.mp hb
      have pa := of_decide_eq_true h2
      have pb := of_decide_eq_true h4
      exact (combo_le pa pb).mpr (Rat.le_trans ((hlo pb).mp (h b h3)) ((hup pa).mp (h a h1)))
  · intro h
    obtain ⟨y, hA, hB⟩ := mid_ex (A := (posL ls).map fun l => (l.2.2 - l.1 * x) / l.2.1) (B := (negL ls).map fun l => (l.2.2 - l.1 * x) / l.2.1) (fun s hs t ht => by
      obtain ⟨a, ha, rfl⟩ := List.mem_map.mp hs
      obtain ⟨b, hb, rfl⟩ := List.mem_map.mp ht
      refine (combo_le (of_decide_eq_true (List.mem_filter.mp ha).2) (of_decide_eq_true (List.mem_filter.mp hb).2)).mp (h _ ?_)
      exact List.mem_append_right _ (List.mem_flatMap.mpr ⟨a, ha, List.mem_map.mpr ⟨b, hb, rfl⟩⟩))
    refine ⟨y, fun l hl => ?_⟩
    by_cases c : 0 < l.2.1
    · exact (hup c).mpr (hA _ (List.mem_map.mpr ⟨l, List.mem_filter.mpr ⟨hl, decide_eq_true c⟩, rfl⟩))
    by_cases c2 : l.2.1 < 0
    · exact (hlo c2).mpr (hB _ (List.mem_map.mpr ⟨l, List.mem_filter.mpr ⟨hl, decide_eq_true c2⟩, rfl⟩))
    have e : l.2.1 = 0 := by grind
    have := h l (List.mem_append_left _ (List.mem_filter.mpr ⟨hl, decide_eq_true e⟩))
    unfold satL
    rw [e]
    grind
def lineL (p q : Rat) (g : Hp3) : Ln := if q = 0 then ((g.p : Rat) / p, (g.q : Rat), (g.r : Rat)) else ((g.q : Rat) / q, (g.p : Rat) - (g.q : Rat) / q * p, (g.r : Rat))
def boundsF (p q : Rat) (hs : List Hp3) : Rng := rowsR ((rowsL (hs.map (lineL p q))).map fun l => (l.1, l.2.2))
theorem boundsF_is {p q : Rat} (h0 : ¬ (p = 0 ∧ q = 0)) (hs : List Hp3) : IsRng (fun x => ∃ z : Ray, Rg hs z ∧ p * z.1 + q * z.2 = x) (boundsF p q hs) := by
  refine IsRng.congr (fun x => ?_) (rowsR_is _)
  have e : (∀ r ∈ (rowsL (hs.map (lineL p q))).map fun l => (l.1, l.2.2), r.1 * x ≤ r.2) ↔ ∀ r ∈ rowsL (hs.map (lineL p q)), r.1 * x ≤ r.2.2 := by
    constructor
    · intro h r hr
      exact h _ (List.mem_map.mpr ⟨r, hr, rfl⟩)
    · intro h r hr
      obtain ⟨l, hl, rfl⟩ := List.mem_map.mp hr
      exact h l hl
  rw [e, ← elim_iff]
  by_cases c : q = 0
  · have hp : p ≠ 0 := fun z => h0 ⟨z, c⟩
    have sat : ∀ (g : Hp3) (z : Ray), p * z.1 + q * z.2 = x → (satL x z.2 (lineL p q g) ↔ valH g z ≤ (g.r : Rat)) := fun g z hz => by
      unfold satL lineL valH
      rw [if_pos c]
      have e1 : (g.p : Rat) = (g.p : Rat) / p * p := by rw [Rat.div_mul_cancel hp]
      have e2 : (g.p : Rat) / p * x = (g.p : Rat) * z.1 := by
        rw [← hz, c]
        generalize (g.p : Rat) / p = k at *
        grind
      show (g.p : Rat) / p * x + (g.q : Rat) * z.2 ≤ (g.r : Rat) ↔ _
      rw [e2]
    constructor
    · rintro ⟨y, h⟩
      have hz : p * (x / p, y).1 + q * (x / p, y).2 = x := by
        show p * (x / p) + q * y = x
        rw [c, Rat.mul_comm p, Rat.div_mul_cancel hp]
        grind
      exact ⟨(x / p, y), fun g hg => (sat g _ hz).mp (h _ (List.mem_map.mpr ⟨g, hg, rfl⟩)), hz⟩
    · rintro ⟨z, hz, hx⟩
      refine ⟨z.2, fun l hl => ?_⟩
      obtain ⟨g, hg, rfl⟩ := List.mem_map.mp hl
      exact (sat g z hx).mpr (hz g hg)
  · have sat : ∀ (g : Hp3) (z : Ray), p * z.1 + q * z.2 = x → (satL x z.1 (lineL p q g) ↔ valH g z ≤ (g.r : Rat)) := fun g z hz => by
      unfold satL lineL valH
      rw [if_neg c]
      have e1 : (g.q : Rat) = (g.q : Rat) / q * q := by rw [Rat.div_mul_cancel c]
      show (g.q : Rat) / q * x + ((g.p : Rat) - (g.q : Rat) / q * p) * z.1 ≤ (g.r : Rat) ↔ _
      have e2 : (g.q : Rat) / q * x + ((g.p : Rat) - (g.q : Rat) / q * p) * z.1 = (g.p : Rat) * z.1 + (g.q : Rat) * z.2 := by
        rw [← hz]
        generalize (g.q : Rat) / q = k at *
        rw [e1]
        grind
      rw [e2]
    constructor
    · rintro ⟨y, h⟩
      have hz : p * (y, (x - p * y) / q).1 + q * (y, (x - p * y) / q).2 = x := by
        show p * y + q * ((x - p * y) / q) = x
        rw [Rat.mul_comm q, Rat.div_mul_cancel c]
        grind
      exact ⟨(y, (x - p * y) / q), fun g hg => (sat g _ hz).mp (h _ (List.mem_map.mpr ⟨g, hg, rfl⟩)), hz⟩
    · rintro ⟨z, hz, hx⟩
      refine ⟨z.1, fun l hl => ?_⟩
      obtain ⟨g, hg, rfl⟩ := List.mem_map.mp hl
      exact (sat g z hx).mpr (hz g hg)
end PG

set_option maxRecDepth 100000
set_option maxHeartbeats 4000000
namespace PG
open PySem PySem.Spec PyProof.Rows L2 RT

abbrev Wy := Int × Int
def free (hs : List Hp3) (w : Wy) : Bool := (!decide (w.1 = 0) || !decide (w.2 = 0)) && hs.all fun g => decide (g.p * w.1 + g.q * w.2 ≤ 0)
end PG

set_option maxRecDepth 100000
set_option maxHeartbeats 4000000
namespace PG
open PySem PySem.Spec PyProof.Rows L2 RT
theorem pts_of {hs : List Hp3} {c : Ray} (h1 : c ∈ cands hs) (h2 : Rg hs c) : c ∈ pts hs := List.mem_filter.mpr ⟨h1, all_has.mpr h2⟩
theorem cand_proj {hs : List Hp3} {g : Hp3} (hg : g ∈ hs) : projH g ∈ cands hs := List.mem_cons_of_mem _ (List.mem_flatMap.mpr ⟨g, hg, List.mem_cons_self⟩)
theorem cand_meet {hs : List Hp3} {g k : Hp3} {x : Ray} (hg : g ∈ hs) (hk : k ∈ hs) (h : meetR g k = some x) : x ∈ cands hs := List.mem_cons_of_mem _ (List.mem_flatMap.mpr ⟨g, hg, List.mem_cons_of_mem _ (List.mem_filterMap.mpr ⟨k, hk, h⟩)⟩)
theorem top_at {p q s : Rat} {hs : List Hp3} (hd : ∀ g ∈ hs, Dir g) {x : Ray} (hx : Rg hs x) (e : lin2 p q x = s) (h : supF p q hs = some s) : ∃ c ∈ pts hs, lin2 p q c = s := by
  unfold supF at h
  by_cases c : p = 0 ∧ q = 0
  · rw [if_pos c] at h
    obtain ⟨rfl, rfl⟩ := c
    cases h
    obtain ⟨c, hc, hr⟩ := cand_of hd hx
    exact ⟨c, pts_of hc hr, lin0 c⟩
  · rw [if_neg c] at h
    obtain ⟨h1, _⟩ := least_some h
    rcases List.mem_append.mp h1 with h | h
    · obtain ⟨g, hg, eb⟩ := List.mem_map.mp h
      unfold sglB at eb
      split at eb
      · rename_i hc
        have eb' := Option.some.inj eb
        have hpos := (hd g hg).pos
        have ed := dot_cast g g
        obtain ⟨t, et⟩ : ∃ t, ((g.p : Rat) * p + (g.q : Rat) * q) / (dotI g g : Rat) = t := ⟨_, rfl⟩
        have t0 : 0 < t := by
          rw [← et, Rat.div_def]
          exact Rat.mul_pos hc.2 (Rat.inv_pos.mpr hpos)
        have hc1 := hc.1
        have e1 : p = t * (g.p : Rat) := by
          rw [← et]
          generalize (dotI g g : Rat) = d at *
          grind
        have e2 : q = t * (g.q : Rat) := by
          rw [← et]
          generalize (dotI g g : Rat) = d at *
          grind
        have key : ∀ y : Ray, valH g y = g.r → lin2 p q y = s := fun y hy => by
          rw [← eb', et]
          unfold valH at hy
          unfold lin2
          rw [e1, e2, ← hy]
          grind
        have hv : valH g x = g.r := by
          rw [← eb', et] at e
          unfold lin2 at e
          rw [e1, e2] at e
          unfold valH
          have : t * ((g.p : Rat) * x.1 + (g.q : Rat) * x.2) = t * (g.r : Rat) := by grind
          clear key eb e1 e2 et ed
          generalize (g.p : Rat) * x.1 + (g.q : Rat) * x.2 = u at *
          grind
        rcases line_cand (hd g hg) hx hv with h | ⟨j, hj, y, hm, hy⟩
        · exact ⟨_, pts_of (cand_proj hg) h, key _ (proj_val (hd g hg))⟩
        · exact ⟨y, pts_of (cand_meet hg hj hm) hy, key _ (meet_val hm).2.1⟩
      · cases eb
    · obtain ⟨g, hg, k, hk, eb⟩ := mem_prs h
      unfold prB at eb
      cases hw : prW p q g k with
      | none =>
        rw [hw] at eb
        cases eb
      | some w =>
        rw [hw] at eb
        obtain ⟨h0, w1, w2, e1, e2⟩ := prW_some hw
        have eb' : s = w.1 * (g.r : Rat) + w.2 * (k.r : Rat) := Option.some.inj eb
        have a1 := hx g hg
        have a2 := hx k hk
        have es : w.1 * valH g x + w.2 * valH k x = w.1 * (g.r : Rat) + w.2 * (k.r : Rat) := by
          rw [← eb', ← e]
          unfold lin2 valH
          rw [← e1, ← e2]
          grind
        have b1 := mul_le a1 (Rat.le_of_lt w1)
        have b2 := mul_le a2 (Rat.le_of_lt w2)
        have v1 : valH g x = g.r := by
          have : w.1 * valH g x = w.1 * (g.r : Rat) := by grind
          clear es b1 b2 e1 e2
          generalize valH g x = u at *
          grind
        have v2 : valH k x = k.r := by
          have : w.2 * valH k x = w.2 * (k.r : Rat) := by grind
          clear es b1 b2 e1 e2
          generalize valH k x = u at *
          grind
        exact ⟨x, pts_of (cand_meet hg hk (meet_of h0 v1 v2)) hx, e⟩
end PG

set_option maxRecDepth 100000
set_option maxHeartbeats 4000000
namespace PG
open PySem PySem.Spec PyProof.Rows L2 RT
theorem zb_div (x y : Rat) : zb (x / y) ≤ zb x + zb y := by
  rw [Rat.div_def]
  have := zb_mul x y⁻¹
  have := zb_inv (m := y)
  omega
theorem HZ.zb {n : Nat} {g : Hp3} (h : HZ n g) : zb (g.p : Rat) ≤ n ∧ zb (g.q : Rat) ≤ n ∧ zb (g.r : Rat) ≤ n := by
  obtain ⟨a, b, c⟩ := h
  have := zb_int g.p
  have := zb_int g.q
  have := zb_int g.r
  omega
theorem sgn_le0 (x : Rat) : (sgn x ≤ 0) ↔ ¬ 0 < x := by
  rw [← sgn_pos]
  omega
theorem dlc_own {α : Type} (f h : α → Dt) {xs : List α} {m : M} {g : Tgt} {t te : DE} {vs : List Nat} {Q : Vl → M → Prop} (ht : ∀ K : Vl → M → Prop, K (.d (.lst (xs.map f))) m → t m K)
    (hs : ∀ x ∈ xs, ∀ (C : Vl → M → Prop), (∀ sl', C (.d (h x)) ⟨sl', m.st⟩) → tgD g (.d (f x)) ⟨wipeD m.sl vs, m.st⟩ fun m1 => te m1 C) (hl : xs.length ≤ 1000000) (hK : Q (.c m.st.length) ⟨m.sl, m.st ++ [.lst (xs.map h)]⟩) : dLc true (dAny t) g dYes te vs m Q :=
  ht _ (lc_map f h (done := []) hs (by simpa using hl) hK)
section
variable {st : List Cell} {Q : Vl → List Cell → Prop} {hs : List Hp3} {n : Nat} {g k : Hp3} {p q : Rat}
theorem sgl_z (hp : zb p ≤ n) (hq : zb q ≤ n) (hg : HZ n g) : ∀ b, sglB p q g = some b → zb b ≤ 20 * n := fun b e => by
  obtain ⟨z1, z2, z3⟩ := hg.zb
  unfold sglB at e
  split at e
  · cases e
    have a1 := zb_mul (g.p : Rat) p
    have a2 := zb_mul (g.q : Rat) q
    have a3 := zb_add ((g.p : Rat) * p) ((g.q : Rat) * q)
    have a4 := zb_div ((g.p : Rat) * p + (g.q : Rat) * q) (dotI g g : Rat)
    have a5 := zb_mul (((g.p : Rat) * p + (g.q : Rat) * q) / (dotI g g : Rat)) (g.r : Rat)
    have a6 := zb_int (dotI g g)
    have a7 := dot_z hg hg
    omega
  · cases e
theorem single_ok (hd : Dir g) (hp : zb p ≤ n) (hq : zb q ≤ n) (hg : HZ n g) (hn : n ≤ 1000000) (h : Q (.d (ofr (sglB p q g))) st) : sp_single_bound [.d (hpD g), .d (fr p), .d (fr q)] st Q := by
  obtain ⟨z1, z2, z3⟩ := hg.zb
  have a1 := zb_mul (g.p : Rat) p
  have a2 := zb_mul (g.q : Rat) q
  have a3 := zb_add ((g.p : Rat) * p) ((g.q : Rat) * q)
  have a4 := zb_div ((g.p : Rat) * p + (g.q : Rat) * q) (dotI g g : Rat)
  have a6 := zb_int (dotI g g)
  have a7 := dot_z hg hg
  have b1 := zb_mul (g.p : Rat) q
  have b2 := zb_mul (g.q : Rat) p
  unfold sp_single_bound
  refine ⟨rfl, ?_⟩
  let S : Option Vl → Option Vl → Option Vl → M := fun z3 z4 z5 => ⟨[some (.d (hpD g)), some (.d (fr p)), some (.d (fr q)), z3, z4, z5], st⟩
  refine seq_to (S (some (.d (fr ((g.p : Rat) * q - (g.q : Rat) * p)))) none none) (fun K hK => ?_) ?_
  · refine frac1_ok ?_
    refine multiply_ok (x := (g.p : Rat)) (y := q) (zm (by omega)) ?_
    refine frac1_ok ?_
    refine multiply_ok (x := (g.q : Rat)) (y := p) (zm (by omega)) ?_
    exact subtract_ok (zm (by omega)) hK
  refine seq_to (S (some (.d (fr ((g.p : Rat) * q - (g.q : Rat) * p)))) (some (.d (fr ((g.p : Rat) * p + (g.q : Rat) * q)))) none) (fun K hK => ?_) ?_
  · refine frac1_ok ?_
    refine multiply_ok (x := (g.p : Rat)) (y := p) (zm (by omega)) ?_
    refine frac1_ok ?_
    refine multiply_ok (x := (g.q : Rat)) (y := q) (zm (by omega)) ?_
    exact add_ok (zm (by omega)) hK
  have cnd : ∀ K : Bool → M → Prop, K (!decide ((g.p : Rat) * q - (g.q : Rat) * p = 0 ∧ 0 < (g.p : Rat) * p + (g.q : Rat) * q)) (S (some (.d (fr ((g.p : Rat) * q - (g.q : Rat) * p)))) (some (.d (fr ((g.p : Rat) * p + (g.q : Rat) * q)))) none) → dOr (dTest (dOp RT.rNe (dVar 3) (dC PG.v_ZERO))) (dTest (dOp rLe (dCall PG.sp_sign [] (dCons (dVar 4) dNil)) (dC (.int 0)))) (S (some (.d (fr ((g.p : Rat) * q - (g.q : Rat) * p)))) (some (.d (fr ((g.p : Rat) * p + (g.q : Rat) * q)))) none) K := fun K hK => by
    refine ⟨sh_fr', sh_fr' (q := 0), ?_⟩
    show if (!eqD (fr ((g.p : Rat) * q - (g.q : Rat) * p)) (fr 0)) = true then _ else _
    rw [eqD_fr]
    by_cases c : (g.p : Rat) * q - (g.q : Rat) * p = 0
    · rw [decide_eq_true c]
      refine sign_ok ⟨trivial, ?_⟩
      show K (decide (sgn ((g.p : Rat) * p + (g.q : Rat) * q) ≤ 0)) _
      have e : decide (sgn ((g.p : Rat) * p + (g.q : Rat) * q) ≤ 0) = !decide ((g.p : Rat) * q - (g.q : Rat) * p = 0 ∧ 0 < (g.p : Rat) * p + (g.q : Rat) * q) := by
        rw [← decide_not]
        refine decide_eq_decide.mpr ?_
        rw [sgn_le0]
        exact ⟨fun h ⟨_, h2⟩ => h h2, fun h h2 => h ⟨c, h2⟩⟩
      rw [e]
      exact hK
    · rw [decide_eq_false c]
      rw [decide_eq_false (fun z => c z.1)] at hK
      exact hK
  unfold sglB at h
  by_cases c : (g.p : Rat) * q - (g.q : Rat) * p = 0 ∧ 0 < (g.p : Rat) * p + (g.q : Rat) * q
  · rw [if_pos c] at h
    rw [decide_eq_true c] at cnd
    refine guard_st (S (some (.d (fr ((g.p : Rat) * q - (g.q : Rat) * p)))) (some (.d (fr ((g.p : Rat) * p + (g.q : Rat) * q)))) none) (fun K hK => cnd K hK) ?_
    have hpos := hd.pos
    refine seq_to (S (some (.d (fr ((g.p : Rat) * q - (g.q : Rat) * p)))) (some (.d (fr ((g.p : Rat) * p + (g.q : Rat) * q)))) (some (.d (fr (((g.p : Rat) * p + (g.q : Rat) * q) / (dotI g g : Rat)))))) (fun K hK => ?_) ?_
    · refine prod_ok hg hg (by omega) ?_
      refine frac1_ok ?_
      exact divide_ok (by grind) (zm (by omega)) hK
    · exact frac1_ok (multiply_ok (zm (by omega)) (tk h))
  · rw [if_neg c] at h
    rw [decide_eq_false c] at cnd
    refine ifs_t (S (some (.d (fr ((g.p : Rat) * q - (g.q : Rat) * p)))) (some (.d (fr ((g.p : Rat) * p + (g.q : Rat) * q)))) none) (fun K hK => cnd K hK) ?_
    exact tk h
def owt : Option (Rat × Rat) → Dt
  | none => .non
  | some w => .tup [fr w.1, fr w.2]
theorem prW_z (hp : zb p ≤ n) (hq : zb q ≤ n) (hg : HZ n g) (hk : HZ n k) : zb ((p * (k.q : Rat) - q * (k.p : Rat)) / (dt g k : Rat)) ≤ 6 * n ∧ zb ((q * (g.p : Rat) - p * (g.q : Rat)) / (dt g k : Rat)) ≤ 6 * n := by
  obtain ⟨z1, z2, z3⟩ := hg.zb
  obtain ⟨y1, y2, y3⟩ := hk.zb
  have a1 := zb_mul p (k.q : Rat)
  have a2 := zb_mul q (k.p : Rat)
  have a3 := zb_sub (p * (k.q : Rat)) (q * (k.p : Rat))
  have a4 := zb_div (p * (k.q : Rat) - q * (k.p : Rat)) (dt g k : Rat)
  have b1 := zb_mul q (g.p : Rat)
  have b2 := zb_mul p (g.q : Rat)
  have b3 := zb_sub (q * (g.p : Rat)) (p * (g.q : Rat))
  have b4 := zb_div (q * (g.p : Rat) - p * (g.q : Rat)) (dt g k : Rat)
  have c1 := zb_int (dt g k)
  have c2 := dt_z hg hk
  omega
theorem pweights_ok (hp : zb p ≤ n) (hq : zb q ≤ n) (hg : HZ n g) (hk : HZ n k) (hn : n ≤ 1000000) (h : Q (.d (owt (prW p q g k))) st) : sp_pair_weights [.d (hpD g), .d (hpD k), .d (fr p), .d (fr q)] st Q := by
  obtain ⟨z1, z2, z3⟩ := hg.zb
  obtain ⟨y1, y2, y3⟩ := hk.zb
  have a1 := zb_mul p (k.q : Rat)
  have a2 := zb_mul q (k.p : Rat)
  have a3 := zb_sub (p * (k.q : Rat)) (q * (k.p : Rat))
  have b1 := zb_mul q (g.p : Rat)
  have b2 := zb_mul p (g.q : Rat)
  have b3 := zb_sub (q * (g.p : Rat)) (p * (g.q : Rat))
  have c1 := zb_int (dt g k)
  have c2 := dt_z hg hk
  unfold sp_pair_weights
  refine ⟨rfl, ?_⟩
  let S : Option Vl → Option Vl → Option Vl → M := fun z4 z5 z6 => ⟨[some (.d (hpD g)), some (.d (hpD k)), some (.d (fr p)), some (.d (fr q)), z4, z5, z6], st⟩
  refine seq_to (S (some (.d (.int (dt g k)))) none none) (fun K hK => det_ok hg hk (by omega) hK) ?_
  unfold prW at h
  by_cases c : dt g k = 0
  · rw [if_pos c] at h
    refine ifs_t (S (some (.d (.int (dt g k)))) none none) (fun K hK => ⟨rfl, rfl, ?_⟩) ?_
    · show K (eqD (.int (dt g k)) (.int 0)) _
      rw [eqD_int, decide_eq_true c]
      exact hK
    · exact tk h
  · rw [if_neg c] at h
    refine guard_st (S (some (.d (.int (dt g k)))) none none) (fun K hK => ⟨rfl, rfl, ?_⟩) ?_
    · show K (eqD (.int (dt g k)) (.int 0)) _
      rw [eqD_int, decide_eq_false c]
      exact hK
    have d0 : (dt g k : Rat) ≠ 0 := fun y => c (Rat.intCast_eq_zero_iff.mp y)
    obtain ⟨w1, e1⟩ : ∃ w, (p * (k.q : Rat) - q * (k.p : Rat)) / (dt g k : Rat) = w := ⟨_, rfl⟩
    obtain ⟨w2, e2⟩ : ∃ w, (q * (g.p : Rat) - p * (g.q : Rat)) / (dt g k : Rat) = w := ⟨_, rfl⟩
    rw [e1, e2] at h
    refine seq_to (S (some (.d (.int (dt g k)))) (some (.d (fr w1))) none) (fun K hK => ?_) ?_
    · refine frac1_ok ?_
      refine multiply_ok (x := p) (y := (k.q : Rat)) (zm (by omega)) ?_
      refine frac1_ok ?_
      refine multiply_ok (x := q) (y := (k.p : Rat)) (zm (by omega)) ?_
      refine subtract_ok (zm (by omega)) (frac1_ok ?_)
      refine divide_ok d0 (zm (by omega)) ?_
      rw [e1]
      exact hK
    refine seq_to (S (some (.d (.int (dt g k)))) (some (.d (fr w1))) (some (.d (fr w2)))) (fun K hK => ?_) ?_
    · refine frac1_ok ?_
      refine multiply_ok (x := q) (y := (g.p : Rat)) (zm (by omega)) ?_
      refine frac1_ok ?_
      refine multiply_ok (x := p) (y := (g.q : Rat)) (zm (by omega)) ?_
      refine subtract_ok (zm (by omega)) (frac1_ok ?_)
      refine divide_ok d0 (zm (by omega)) ?_
      rw [e2]
      exact hK
    refine sign_ok ⟨trivial, ?_⟩
    show if decide (sgn w1 ≤ 0) = true then _ else _
    refine ifd (fun c1 => ?_) fun c1 => ?_
    · rw [sgn_le0] at c1
      rw [if_pos (.inl (by grind))] at h
      exact tk h
    · rw [sgn_le0] at c1
      refine sign_ok ⟨trivial, ?_⟩
      show if decide (sgn w2 ≤ 0) = true then _ else _
      refine ifd (fun c2 => ?_) fun c2 => ?_
      · rw [sgn_le0] at c2
        rw [if_pos (.inr (by grind))] at h
        exact tk h
      · rw [sgn_le0] at c2
        rw [if_neg (by grind)] at h
        exact ⟨lineN rfl, tk h⟩
theorem pr_z (hp : zb p ≤ n) (hq : zb q ≤ n) (hg : HZ n g) (hk : HZ n k) : ∀ b, prB p q g k = some b → zb b ≤ 20 * n := fun b e => by
  obtain ⟨z1, z2, z3⟩ := hg.zb
  obtain ⟨y1, y2, y3⟩ := hk.zb
  obtain ⟨w1, w2⟩ := prW_z hp hq hg hk
  unfold prB prW at e
  split at e
  · cases e
  · split at e
    · cases e
    · have e' := Option.some.inj e
      rw [← e']
      have a1 := zb_mul ((p * (k.q : Rat) - q * (k.p : Rat)) / (dt g k : Rat)) (g.r : Rat)
      have a2 := zb_mul ((q * (g.p : Rat) - p * (g.q : Rat)) / (dt g k : Rat)) (k.r : Rat)
      have a3 := zb_add ((p * (k.q : Rat) - q * (k.p : Rat)) / (dt g k : Rat) * (g.r : Rat)) ((q * (g.p : Rat) - p * (g.q : Rat)) / (dt g k : Rat) * (k.r : Rat))
      dsimp only
      omega
theorem pair_ok (hp : zb p ≤ n) (hq : zb q ≤ n) (hg : HZ n g) (hk : HZ n k) (hn : n ≤ 1000000) (h : Q (.d (ofr (prB p q g k))) st) : sp_pair_bound [.d (hpD g), .d (hpD k), .d (fr p), .d (fr q)] st Q := by
  obtain ⟨z1, z2, z3⟩ := hg.zb
  obtain ⟨y1, y2, y3⟩ := hk.zb
  obtain ⟨u1, u2⟩ := prW_z hp hq hg hk
  unfold sp_pair_bound
  refine ⟨rfl, pweights_ok hp hq hg hk hn ?_⟩
  unfold prB at h
  have hw : ∀ w, prW p q g k = some w → w = ((p * (k.q : Rat) - q * (k.p : Rat)) / (dt g k : Rat), (q * (g.p : Rat) - p * (g.q : Rat)) / (dt g k : Rat)) := fun w e => by
    unfold prW at e
    split at e
    · cases e
    · split at e
      · cases e
      · exact (Option.some.inj e).symm
  cases e : prW p q g k with
  | none =>
    rw [e] at h
    exact tk h
  | some w =>
    rw [e] at h
    have ew := hw w e
    have v1 : zb w.1 ≤ 6 * n := by rw [ew]; exact u1
    have v2 : zb w.2 ≤ 6 * n := by rw [ew]; exact u2
    have a1 := zb_mul w.1 (g.r : Rat)
    have a2 := zb_mul w.2 (k.r : Rat)
    refine frac1_ok ?_
    refine multiply_ok (x := w.1) (y := (g.r : Rat)) (zm (by omega)) ?_
    refine frac1_ok ?_
    refine multiply_ok (x := w.2) (y := (k.r : Rat)) (zm (by omega)) ?_
    exact add_ok (zm (by omega)) (tk h)
theorem bounds_z (hp : zb p ≤ n) (hq : zb q ≤ n) (hg : ∀ g ∈ hs, HZ n g) : Zs (20 * n) (bounds p q hs) := fun b hb => by
  rcases List.mem_append.mp hb with h | h
  · obtain ⟨g, hg', e⟩ := List.mem_map.mp h
    exact sgl_z hp hq (hg g hg') b e
  · obtain ⟨g, hg1, k, hk1, e⟩ := mem_prs h
    exact pr_z hp hq (hg g hg1) (hg k hk1) b e.symm
theorem sup_z (hp : zb p ≤ n) (hq : zb q ≤ n) (hg : ∀ g ∈ hs, HZ n g) : ∀ b, supF p q hs = some b → zb b ≤ 20 * n + 2 := fun b e => by
  unfold supF at e
  split at e
  · cases e
    rw [zb0]
    omega
  · have := bounds_z hp hq hg b (least_some e).1
    omega
theorem prs_len (p q : Rat) : ∀ hs : List Hp3, (prs p q hs).length ≤ hs.length * hs.length
  | [] => Nat.zero_le _
  | g :: r => by
    show (r.map (prB p q g) ++ prs p q r).length ≤ _
    rw [List.length_append, List.length_map, List.length_cons, Nat.succ_mul, Nat.mul_succ]
    have := prs_len p q r
    omega
theorem sup_ok (hd : ∀ g ∈ hs, Dir g) (hp : zb p ≤ n) (hq : zb q ≤ n) (hg : ∀ g ∈ hs, HZ n g) (hn : n ≤ 1000000) (hl : hs.length ≤ 300) (h : Q (.d (ofr (supF p q hs))) st) : sp_supremum [.d (.lst (hs.map hpD)), .d (fr p), .d (fr q)] st Q := by
  unfold sp_supremum
  refine ⟨rfl, ?_⟩
  let S : Option Vl → Option Vl → Option Vl → Option Vl → List Cell → M := fun z3 z4 z5 z6 c => ⟨[some (.d (.lst (hs.map hpD))), some (.d (fr p)), some (.d (fr q)), z3, z4, z5, z6], c⟩
  have cnd : ∀ K : Bool → M → Prop, K (decide (p = 0 ∧ q = 0)) (S none none none none st) → dAnd (dTest (dOp RT.rEq (dVar 1) (dC PG.v_ZERO))) (dTest (dOp RT.rEq (dVar 2) (dC PG.v_ZERO))) (S none none none none st) K := fun K hK => by
    refine ⟨sh_fr', sh_fr' (q := 0), ?_⟩
    show if eqD (fr p) (fr 0) = true then _ else _
    rw [eqD_fr]
    refine ifd (fun c => ?_) fun c => ?_
    · refine ⟨sh_fr', sh_fr' (q := 0), ?_⟩
      show K (eqD (fr q) (fr 0)) _
      rw [eqD_fr]
      have : decide (q = 0) = decide (p = 0 ∧ q = 0) := decide_eq_decide.mpr ⟨fun e => ⟨c, e⟩, fun e => e.2⟩
      rw [this]
      exact hK
    · rw [decide_eq_false (fun z => c z.1)] at hK
      exact hK
  unfold supF at h
  by_cases c : p = 0 ∧ q = 0
  · rw [if_pos c] at h
    rw [decide_eq_true c] at cnd
    refine ifs_t (S none none none none st) (fun K hK => cnd K hK) ?_
    exact tk h
  rw [if_neg c] at h
  rw [decide_eq_false c] at cnd
  refine guard_st (S none none none none st) (fun K hK => cnd K hK) ?_
  let T : List (Option Rat) → Option Vl → Option Vl → Option Vl → M := fun acc z3 z5 z6 => S z3 (some (.c st.length)) z5 z6 (st ++ [Cell.lst (acc.map ofr)])
  refine seq_to (T (hs.map (sglB p q)) none none none) (fun K hK => ?_) ?_
  · refine dlc_own hpD (fun g => ofr (sglB p q g)) (xs := hs) (fun K2 h2 => ?_) (fun g hgm C hC => ?_) (by omega) ?_
    · exact h2
    · exact single_ok (hd g hgm) hp hq (hg g hgm) hn (hC _)
    · have e : hs.map (fun g => ofr (sglB p q g)) = (hs.map (sglB p q)).map ofr := by rw [List.map_map]; rfl
      rw [e]
      exact hK
  have pl := prs_len p q hs
  have hmul : hs.length * hs.length ≤ 300 * 300 := Nat.mul_le_mul hl hl
  refine seq_mid (fun m => ∃ z3 z5 z6, m = T (bounds p q hs) z3 z5 z6) (fun K hK => ?_) ?_
  · refine enum_inv (fun k rest m => ∃ done acc z3 z5 z6, hs = done ++ rest ∧ k = done.length ∧ acc ++ prs p q rest = bounds p q hs ∧ m = T acc z3 z5 z6) ?_ ?_ _ 0 _ ⟨[], hs.map (sglB p q), none, none, none, rfl, rfl, rfl, rfl⟩
    · rintro k g rest m K2 hK2 ⟨done, acc, z3, z5, z6, e1, rfl, e3, rfl⟩
      have hgm : g ∈ hs := by rw [e1]; exact List.mem_append_right _ List.mem_cons_self
      have hrest : ∀ k ∈ rest, k ∈ hs := fun k hk => by rw [e1]; exact List.mem_append_right _ (List.mem_cons_of_mem _ hk)
      have hj : done.length < hs.length := by
        rw [e1, List.length_append, List.length_cons]
        omega
      have hdrop : hs.drop (done.length + 1) = rest := by
        rw [e1, List.drop_append]
        simp
      have bl : (bounds p q hs).length ≤ 100000 := by
        unfold bounds
        rw [List.length_append, List.length_map]
        omega
      have e3' : acc ++ (rest.map (prB p q g) ++ prs p q rest) = bounds p q hs := e3
      show dLoop (.nm 6) _ (RT.cutD (hs.map hpD) (some (((done.length : Nat) : Int) + 1)) none) none _ (RT.cutD (hs.map hpD) (some (((done.length : Nat) : Int) + 1)) none) _
      have ec : RT.cutD (hs.map hpD) (some (((done.length : Nat) : Int) + 1)) none = rest.map hpD := by
        have := cut_drop (hs.map hpD) (done.length + 1) (by rw [List.length_map]; omega)
        rw [← List.map_drop, hdrop] at this
        exact this
      rw [ec]
      refine each_inv (lk := none) hpD (fun r m => ∃ acc2 z6, (∀ k ∈ r, k ∈ hs) ∧ acc2 ++ (r.map (prB p q g) ++ prs p q rest) = bounds p q hs ∧ m = T acc2 (some (.d (hpD g))) (some (.d (.int done.length))) z6) (fun _ _ _ => trivial) ?_ ?_ rest _ ⟨acc, z6, hrest, e3', rfl⟩
      · rintro k r _ K3 hK3 ⟨acc2, z6, hr, he, rfl⟩
        have hkm := hr k List.mem_cons_self
        have al : acc2.length ≤ 100000 := by
          have := congrArg List.length he
          rw [List.length_append] at this
          omega
        refine append_st (k := st.length) (xs := acc2.map ofr) (ofr (prB p q g k)) ?_ ?_ (fun C hC => ?_) (small_lt (by rw [List.length_map]; omega)) ?_
        · rfl
        · exact getElem_last _ _
        · exact pair_ok hp hq (hg g hgm) (hg k hkm) hn hC
        · refine hK3 _ ⟨acc2 ++ [prB p q g k], some (.d (hpD k)), fun y hy => hr y (List.mem_cons_of_mem _ hy), ?_, congrArg (M.mk _) ?_⟩
          · rw [List.append_assoc]
            exact he
          · show (st ++ [_]).set st.length _ = st ++ [_]
            rw [set_last, List.map_append]
            rfl
      · rintro _ ⟨acc2, z6, _, he, rfl⟩
        refine hK2 _ ⟨done ++ [g], acc2, _, _, _, by rw [e1, List.append_assoc]; rfl, by rw [List.length_append, List.length_singleton], he, rfl⟩
    · rintro k _ ⟨done, acc, z3, z5, z6, e1, rfl, e3, rfl⟩
      have e3' : acc ++ [] = bounds p q hs := e3
      rw [List.append_nil] at e3'
      exact hK _ ⟨z3, z5, z6, by rw [e3']⟩
  rintro _ ⟨z3, z5, z6, rfl⟩
  show onC (st ++ [Cell.lst ((bounds p q hs).map ofr)]) st.length _
  refine onC_mk (getElem_last _ _) ?_
  refine best_ok (bounds_z hp hq hg) (zm (by omega)) ?_
  show Q _ (((st ++ [_]).set st.length _).take st.length)
  rw [fz_st]
  exact h
theorem inf_ok (hd : ∀ g ∈ hs, Dir g) (hp : zb p ≤ n) (hq : zb q ≤ n) (hg : ∀ g ∈ hs, HZ n g) (hn : n ≤ 1000000) (hl : hs.length ≤ 300) (h : Q (.d (ofr (infF p q hs))) st) : sp_infimum [.d (.lst (hs.map hpD)), .d (fr p), .d (fr q)] st Q := by
  unfold sp_infimum
  refine ⟨rfl, negative_ok (negative_ok ?_)⟩
  refine sup_ok hd (by rw [zb_neg]; exact hp) (by rw [zb_neg]; exact hq) hg hn hl ?_
  unfold infF at h
  cases e : supF (-p) (-q) hs with
  | none =>
    rw [e] at h
    exact tk h
  | some s =>
    rw [e] at h
    exact negative_ok (tk h)
def orng (e : Bool) (lo hi : Option Rat) : Dt := if e = true then .non else .tup [ofr lo, ofr hi]
theorem range_ok (hd : ∀ g ∈ hs, Dir g) (hp : zb p ≤ n) (hq : zb q ≤ n) (hg : ∀ g ∈ hs, HZ n g) (hn : n ≤ 1000000) (hl : hs.length ≤ 45) (h : Q (.d (orng (emptyB hs) (infF p q hs) (supF p q hs))) st) : sp_direction_range [.d (.lst (hs.map hpD)), .d (fr p), .d (fr q)] st Q := by
  unfold sp_direction_range
  refine ⟨rfl, empty_ok hg (by omega) hl ?_⟩
  cases e : emptyB hs with
  | true =>
    rw [e] at h
    exact tk h
  | false =>
    rw [e] at h
    refine inf_ok hd hp hq hg hn (by omega) ?_
    exact sup_ok hd hp hq hg hn (by omega) ⟨lineN rfl, tk h⟩
end
end PG

set_option maxRecDepth 100000
set_option maxHeartbeats 4000000

namespace PG
open PySem PySem.Spec PyProof.Rows L2 RT
section
variable {st : List Cell} {a b c x : Cell} {l : List Cell}
theorem at0 : (st ++ a :: l)[st.length]? = some a := by simp
theorem tk0 {v : Vl} {Q : Vl → List Cell → Prop} (h : Q v st) : Q v ((st ++ l).take st.length) := by
  rw [List.take_left]
  exact h
end
section
variable {st : List Cell} {Q : Vl → List Cell → Prop}
end
end PG

set_option maxRecDepth 100000
set_option maxHeartbeats 4000000
namespace PG
open PySem PySem.Spec PyProof.Rows L2 RT
theorem ifs_t' {c : DT} {t : DS} {b : DS} {E : DEnds} {m : M} (m' : M) (hc : ∀ K : Bool → M → Prop, K true m' → c m K) (h : t ⟨b E, E.rt, E.bk, E.ct⟩ m') : dSeq (dIfS c t dNext) b E m := hc _ h
def nv (z : Option Dt) : Option Vl := z.map .d
theorem fz_at {i k : Nat} {m : M} {Q : Vl → M → Prop} {xs : List Dt} (hv : m.sl[i]? = some (some (.c k))) (hc : m.st[k]? = some (.lst xs)) (h : Q (.d (.lst xs)) (frz k xs m)) : dFz i m Q := by
  unfold dFz
  rw [hv]
  exact onC_mk hc h
section
variable {st : List Cell} {Q : Vl → List Cell → Prop}
end
end PG

set_option maxRecDepth 100000
set_option maxHeartbeats 4000000
namespace PG
open PySem PySem.Spec PyProof.Rows L2 RT
def isEdge (es : List El) (m : Mp) (j : Nat) (up : Bool) (h : Hp3) : Prop := ∃ lo hi, es[j]? = some (.stop lo hi) ∧
  if up = true then ∃ u, hi = some u ∧ h = mkH (comp m (transfer (es.take j))).a (comp m (transfer (es.take j))).b (u - (comp m (transfer (es.take j))).e)
  else ∃ l, lo = some l ∧ h = mkH (-(comp m (transfer (es.take j))).a) (-(comp m (transfer (es.take j))).b) ((comp m (transfer (es.take j))).e - l)
theorem planes_mem : ∀ (es : List El) (k : Nat) (m : Mp) (x : Ed × Hp3), x ∈ planesOf k m es → ∃ j, x.1.1 = k + j ∧ isEdge es m j x.1.2 x.2
  | [], _, _, _, h => nomatch h
  | e :: es, k, m, x, h => by
    rcases List.mem_append.mp (show x ∈ edgesAt k e m ++ planesOf (k + 1) (comp m (elM e)) es from h) with h | h
    · refine ⟨0, ?_⟩
      have hc : comp m (transfer ((e :: es).take 0)) = m := comp_idr m
      cases e with
      | stop lo hi =>
        rcases List.mem_append.mp (show x ∈ lowE k lo m ++ uppE k hi m from h) with h | h
        · cases lo with
          | none => exact nomatch h
          | some l =>
            rw [show x = _ from List.mem_singleton.mp h]
            refine ⟨rfl, some l, hi, rfl, ?_⟩
            rw [if_neg Bool.false_ne_true, hc]
            exact ⟨l, rfl, rfl⟩
        · cases hi with
          | none => exact nomatch h
          | some l =>
            rw [show x = _ from List.mem_singleton.mp h]
            refine ⟨rfl, lo, some l, rfl, ?_⟩
            rw [if_pos rfl, hc]
            exact ⟨l, rfl, rfl⟩
      | _ => exact nomatch h
    · obtain ⟨j, hj, lo, hi, hs, hx⟩ := planes_mem es (k + 1) _ x h
      refine ⟨j + 1, by omega, lo, hi, hs, ?_⟩
      have hc : comp m (transfer ((e :: es).take (j + 1))) = comp (comp m (elM e)) (transfer (es.take j)) := by
        rw [List.take_succ_cons, transfer_cons, comp_assoc]
      rw [hc]
      exact hx
where
  comp_idr (m : Mp) : comp m (transfer []) = m := comp_id' m
  comp_id' (m : Mp) : comp m idM = m := id_comp m
end PG

set_option maxRecDepth 100000
set_option maxHeartbeats 4000000

namespace PG
open PySem PySem.Spec PyProof.Rows L2 RT
theorem mkH_prim {p q r : Rat} (h : ¬ (p = 0 ∧ q = 0)) : gcd3 (mkH p q r).p (mkH p q r).q (mkH p q r).r = 1 := by
  have hx : ¬ (mkX p q r = 0 ∧ mkY p q r = 0) := fun ⟨a, b⟩ => by
    have g := mkG_pos (r := r) h
    obtain ⟨t, ht, h1, h2, _⟩ := mkH_spec (r := r) h
    have z1 : (mkH p q r).p = 0 := by unfold mkH; rw [a]; exact Int.zero_ediv _
    have z2 : (mkH p q r).q = 0 := by unfold mkH; rw [b]; exact Int.zero_ediv _
    rw [z1] at h1
    rw [z2] at h2
    refine h ⟨?_, ?_⟩
    · have : t * p = 0 := h1.symm
      rcases Rat.mul_eq_zero.mp this with z | z
      · grind
      · exact z
    · have : t * q = 0 := h2.symm
      rcases Rat.mul_eq_zero.mp this with z | z
      · grind
      · exact z
  exact gcd3_div hx
theorem dvd_gcd3 {d x y z : Int} (h1 : d ∣ x) (h2 : d ∣ y) (h3 : d ∣ z) : d ∣ gcd3 x y z := by
  unfold gcd3
  exact Int.dvd_coe_gcd (Int.dvd_coe_gcd h1 h2) h3
theorem mkH_le {p q r : Rat} {D : Rat} {x y z : Int} (h : ¬ (p = 0 ∧ q = 0)) (hD : 0 < D) (hx : p * D = x) (hy : q * D = y) (hz : r * D = z) : (mkH p q r).p.natAbs ≤ x.natAbs ∧ (mkH p q r).q.natAbs ≤ y.natAbs ∧ (mkH p q r).r.natAbs ≤ z.natAbs := by
  obtain ⟨t, ht, h1, h2, h3⟩ := mkH_spec (r := r) h
  have hp := mkH_prim (r := r) h
  generalize mkH p q r = g at *
  obtain ⟨P, Q, R⟩ := g
  dsimp only at *
  obtain ⟨k, ek⟩ : ∃ k, D / t = k := ⟨_, rfl⟩
  have hk : D = k * t := by rw [← ek, Rat.div_mul_cancel (by grind)]
  have k0 : 0 < k := by
    by_cases c : 0 < k
    · exact c
    · have := Rat.mul_le_mul_of_nonneg_left (Rat.not_lt.mp c) (Rat.le_of_lt ht)
      grind
  have e1 : (P : Rat) * k = x := by rw [h1, ← hx, hk]; grind
  have e2 : (Q : Rat) * k = y := by rw [h2, ← hy, hk]; grind
  have e3 : (R : Rat) * k = z := by rw [h3, ← hz, hk]; grind
  have kd := k.den_pos
  have kn : (k.num : Rat) = k * (k.den : Rat) := num_den k
  have toInt : ∀ {a b : Int}, (a : Rat) * k = b → a * k.num = b * k.den := fun {a b} e => by
    have : ((a * k.num : Int) : Rat) = ((b * k.den : Int) : Rat) := by
      rw [Rat.intCast_mul, Rat.intCast_mul, kn, ← e, Rat.intCast_natCast]
      grind
    exact Rat.intCast_inj.mp this
  have cop : Nat.Coprime k.den k.num.natAbs := Nat.Coprime.symm k.reduced
  have dv : ∀ {a b : Int}, (a : Rat) * k = b → (k.den : Int) ∣ a := fun {a b} e => by
    have : (k.den : Int) ∣ a * k.num := ⟨b, by rw [toInt e, Int.mul_comm]⟩
    have h2 : k.den ∣ a.natAbs * k.num.natAbs := by
      rw [← Int.natAbs_mul]
      exact Int.ofNat_dvd_left.mp this
    exact Int.ofNat_dvd_left.mpr (Nat.Coprime.dvd_of_dvd_mul_right cop h2)
  have hd := dvd_gcd3 (dv e1) (dv e2) (dv e3)
  rw [hp] at hd
  have d1 : (k.den : Int) = 1 := by
    have := Int.le_of_dvd (by decide) hd
    omega
  have kpos : 0 < k.num := (num_pos_iff k).mpr k0
  have le : ∀ {a b : Int}, (a : Rat) * k = b → a.natAbs ≤ b.natAbs := fun {a b} e => by
    have := toInt e
    rw [d1, Int.mul_one] at this
    rw [← this, Int.natAbs_mul]
    exact Nat.le_mul_of_pos_right _ (by omega)
  exact ⟨le e1, le e2, le e3⟩
end PG

set_option maxRecDepth 100000
set_option maxHeartbeats 4000000

namespace PG
namespace C
open PySem PySem.Spec PyProof.Rows L2 RT
def sq (t a b : Rat) : Nat → Rat
  | 0 => a
  | n + 1 => sq t b (t * b - a) n
def Fm (t a b : Rat) : Rat := a * a - t * a * b + b * b
def pw (c : Rat) : Nat → Rat
  | 0 => 1
  | n + 1 => c * pw c n
theorem sq_rec (t : Rat) : ∀ (n : Nat) (a b : Rat), sq t a b (n + 2) = t * sq t a b (n + 1) - sq t a b n
  | 0, a, b => rfl
  | n + 1, a, b => sq_rec t n b (t * b - a)
theorem sq_shift (t : Rat) : ∀ (k n : Nat) (a b : Rat), sq t (sq t a b k) (sq t a b (k + 1)) n = sq t a b (k + n)
  | 0, n, a, b => by
    show sq t a b n = _
    rw [Nat.zero_add]
  | k + 1, n, a, b => by
    rw [show k + 1 + n = (k + n) + 1 by omega]
    exact sq_shift t k n b (t * b - a)
theorem fm_step (t a b : Rat) : Fm t b (t * b - a) = Fm t a b := by
  unfold Fm
  grind
theorem fm_sq (t : Rat) : ∀ (n : Nat) (a b : Rat), Fm t (sq t a b n) (sq t a b (n + 1)) = Fm t a b
  | 0, a, b => rfl
  | n + 1, a, b => by
    rw [← fm_step t a b]
    exact fm_sq t n b (t * b - a)
theorem sq_neg (t : Rat) : ∀ (n : Nat) (a b : Rat), sq t (-a) (-b) n = -sq t a b n
  | 0, a, b => rfl
  | n + 1, a, b => by
    show sq t (-b) (t * -b - -a) n = -sq t b (t * b - a) n
    rw [← sq_neg t n b (t * b - a)]
    congr 1
    grind
theorem sq_alt (t : Rat) : ∀ (n : Nat) (a b : Rat), sq (-t) a (-b) n = (if n % 2 = 0 then sq t a b n else -sq t a b n)
  | 0, a, b => rfl
  | 1, a, b => rfl
  | n + 2, a, b => by
    rw [sq_rec, sq_alt t (n + 1) a b, sq_alt t n a b, sq_rec]
    by_cases c : n % 2 = 0
    · rw [if_neg (by omega), if_pos c, if_pos (by omega)]
      grind
    · rw [if_pos (by omega), if_neg c, if_neg (by omega)]
      grind
theorem pw_pos {c : Rat} (h : 0 < c) : ∀ n, 0 < pw c n
  | 0 => by unfold pw; decide
  | n + 1 => Rat.mul_pos h (pw_pos h n)
theorem pw_sq (c : Rat) : ∀ n, pw c n * pw c n = pw (c * c) n
  | 0 => by unfold pw; grind
  | n + 1 => by
    unfold pw
    rw [← pw_sq c n]
    grind
theorem pw_le {c d : Rat} (h0 : 0 ≤ c) (h : c ≤ d) : ∀ n, 0 ≤ pw c n ∧ pw c n ≤ pw d n
  | 0 => by unfold pw; exact ⟨by decide, Rat.le_refl⟩
  | n + 1 => by
    obtain ⟨h1, h2⟩ := pw_le h0 h n
    unfold pw
    have a := mul_le h2 h0
    have b := mul_le (a := pw d n) h (by grind)
    have c := mul_le h1 h0
    exact ⟨by grind, by grind⟩
theorem pw_two (n : Nat) : pw 2 n = ((2 ^ n : Nat) : Rat) := by
  induction n with
  | zero => rfl
  | succ n ih =>
    unfold pw
    rw [ih, Nat.pow_succ, Rat.natCast_mul]
    have : ((2 : Nat) : Rat) = 2 := rfl
    rw [this]
    grind
theorem grow {t : Rat} (ht : 5 / 2 ≤ t) : ∀ (n : Nat) (a b : Rat), 0 ≤ a → a ≤ b → 0 ≤ sq t a b n ∧ sq t a b n ≤ sq t a b (n + 1) ∧ pw (3 / 2) n * b ≤ sq t a b (n + 1)
  | 0, a, b, h0, h1 => ⟨h0, h1, by unfold pw; show 1 * b ≤ b; grind⟩
  | n + 1, a, b, h0, h1 => by
    have hb : 0 ≤ b := by grind
    have m := mul_le ht hb
    have h2 : b ≤ t * b - a := by grind
    obtain ⟨q1, q2, q3⟩ := grow ht n b (t * b - a) hb h2
    refine ⟨q1, q2, ?_⟩
    have p := (pw_le (c := 3 / 2) (d := 3 / 2) (by grind) (by grind) n).1
    have : 3 / 2 * b ≤ t * b - a := by grind
    have w := mul_le this p
    unfold pw
    show 3 / 2 * pw (3 / 2) n * b ≤ sq t b (t * b - a) (n + 1)
    grind
theorem fall {t : Rat} (ht : 5 / 2 ≤ t) (n : Nat) {a b : Rat} (h0 : a ≤ 0) (h1 : b ≤ a) : sq t a b n ≤ a := by
  have key : ∀ n, sq t a b n ≤ 0 ∧ sq t a b (n + 1) ≤ sq t a b n := fun n => by
    obtain ⟨q1, q2, _⟩ := grow ht n (-a) (-b) (by grind) (by grind)
    rw [sq_neg] at q1 q2
    rw [sq_neg] at q2
    exact ⟨by grind, by grind⟩
  induction n with
  | zero => exact Rat.le_refl
  | succ n ih =>
    have := (key n).2
    grind
def Up (a b : Rat) : Prop := 0 ≤ a ∧ a ≤ b
def Down (a b : Rat) : Prop := a ≤ 0 ∧ b ≤ a
theorem unturned {a b : Rat} (h1 : ¬ Up a b) (h2 : ¬ Down a b) : (0 < a ∧ b < a) ∨ (a < 0 ∧ a < b) := by
  unfold Up at h1
  unfold Down at h2
  by_cases c : 0 < a
  · exact .inl ⟨c, by grind⟩
  · refine .inr ⟨?_, by grind⟩
    refine Classical.byContradiction fun n => ?_
    have : a = 0 := by grind
    subst this
    grind
theorem ft_pos {t a b : Rat} (ht : 5 / 2 ≤ t) (h0 : 0 ≤ b) (h1 : b ≤ a) : Fm t a b ≤ t * (a * a) ∧ -Fm t a b ≤ t * (a * a) := by
  have a0 : 0 ≤ a := by grind
  have t0 : 0 ≤ t := by grind
  have m1 := mul_le h1 a0
  have m2 := mul_le h1 h0
  have m3 := Rat.mul_nonneg a0 h0
  have m4 := Rat.mul_nonneg t0 m3
  have m5 := mul_le m1 t0
  have m6 := Rat.mul_nonneg a0 a0
  have m7 := mul_le ht m6
  have m8 := Rat.mul_nonneg h0 h0
  unfold Fm
  exact ⟨by grind, by grind⟩
theorem turn_pos {t : Rat} (ht : 5 / 2 ≤ t) : ∀ (n : Nat) (a b : Rat), 0 < a → (∀ i, i ≤ n + 1 → ¬ Up (sq t a b i) (sq t a b (i + 1)) ∧ ¬ Down (sq t a b i) (sq t a b (i + 1))) →
    pw 2 n * Fm t a b ≤ t * (a * a) ∧ pw 2 n * -Fm t a b ≤ t * (a * a)
  | n, a, b, h0, h => by
    have c0 := unturned (h 0 (by omega)).1 (h 0 (by omega)).2
    have c1 := unturned (h 1 (by omega)).1 (h 1 (by omega)).2
    have c0 : (0 < a ∧ b < a) ∨ (a < 0 ∧ a < b) := c0
    have c1 : (0 < b ∧ t * b - a < b) ∨ (b < 0 ∧ b < t * b - a) := c1
    have hba : b < a := by grind
    have hb : 0 < b := by
      rcases c1 with ⟨h, _⟩ | ⟨h1, h2⟩
      · exact h
      · have := mul_le (a := -b) (b := 5 / 2) (c := t) ht (by grind)
        grind
    have hs : t * b - a < b := by grind
    cases n with
    | zero =>
      unfold pw
      obtain ⟨q1, q2⟩ := ft_pos ht (Rat.le_of_lt hb) (Rat.le_of_lt hba)
      exact ⟨by grind, by grind⟩
    | succ n =>
      obtain ⟨q1, q2⟩ := turn_pos ht n b (t * b - a) hb fun i hi => h (i + 1) (by omega)
      rw [fm_step] at q1 q2
      have m := mul_le ht (Rat.le_of_lt hb)
      have hba2 : 3 / 2 * b ≤ a := by grind
      have s1 := mul_le hba2 (show 0 ≤ 3 / 2 * b by grind)
      have s2 := mul_le hba2 (Rat.le_of_lt h0)
      have bb := Rat.mul_nonneg (Rat.le_of_lt hb) (Rat.le_of_lt hb)
      have s3 : 2 * (b * b) ≤ a * a := by grind
      have s4 := mul_le s3 (show 0 ≤ t by grind)
      unfold pw
      exact ⟨by grind, by grind⟩
theorem up_neg {a b : Rat} : Up (-a) (-b) ↔ Down a b := by
  unfold Up Down
  constructor
  · intro h
    exact ⟨by grind, by grind⟩
  · intro h
    exact ⟨by grind, by grind⟩
theorem fm_neg (t a b : Rat) : Fm t (-a) (-b) = Fm t a b := by
  unfold Fm
  grind
theorem turn_gen {t : Rat} (ht : 5 / 2 ≤ t) (n : Nat) (a b : Rat) (h : ∀ i, i ≤ n + 1 → ¬ Up (sq t a b i) (sq t a b (i + 1)) ∧ ¬ Down (sq t a b i) (sq t a b (i + 1))) :
    pw 2 n * Fm t a b ≤ t * (a * a) ∧ pw 2 n * -Fm t a b ≤ t * (a * a) := by
  have c0 : (0 < a ∧ b < a) ∨ (a < 0 ∧ a < b) := unturned (h 0 (by omega)).1 (h 0 (by omega)).2
  rcases c0 with ⟨c, _⟩ | ⟨c, _⟩
  · exact turn_pos ht n a b c h
  · have := turn_pos ht n (-a) (-b) (by grind) fun i hi => by
      obtain ⟨h1, h2⟩ := h i hi
      rw [sq_neg, sq_neg]
      refine ⟨fun z => h2 (up_neg.mp z), fun z => h1 ?_⟩
      have z' := up_neg.mpr z
      rw [Rat.neg_neg, Rat.neg_neg] at z'
      exact z'
    rw [fm_neg] at this
    have e : -a * -a = a * a := by grind
    rw [e] at this
    exact this
theorem turns {t a b E : Rat} {N : Nat} (ht : 5 / 2 ≤ t) (E0 : 0 < E) (hF : 1 ≤ Fm t a b * E ∨ 1 ≤ -Fm t a b * E) (hN : t * (a * a) * E < pw 2 N) :
    ∃ i, i ≤ N + 1 ∧ (Up (sq t a b i) (sq t a b (i + 1)) ∨ Down (sq t a b i) (sq t a b (i + 1))) := by
  refine Classical.byContradiction fun no => ?_
  obtain ⟨q1, q2⟩ := turn_gen ht N a b fun i hi => ⟨fun z => no ⟨i, hi, .inl z⟩, fun z => no ⟨i, hi, .inr z⟩⟩
  have p := pw_pos (c := 2) (by decide) N
  have w1 := mul_le q1 (Rat.le_of_lt E0)
  have w2 := mul_le q2 (Rat.le_of_lt E0)
  generalize pw 2 N = P at *
  generalize Fm t a b = F at *
  rcases hF with hF | hF
  · have := mul_le hF (Rat.le_of_lt p)
    grind
  · have := mul_le hF (Rat.le_of_lt p)
    grind
theorem beyondW {t a b W V : Rat} {k : Nat} (ht : 5 / 2 ≤ t) (W0 : 0 ≤ W) (hb1 : 1 ≤ W * (b * b)) (hu : Up a b) (V0 : 0 ≤ V) (hk : V * V * W < pw 2 k) : ∀ j, k ≤ j → V < sq t a b (j + 1) := fun j hj => by
  obtain ⟨h0, h1⟩ := hu
  have hb : 0 ≤ b := by grind
  have g := (grow ht k a b h0 h1).2.2
  have mono : ∀ d, sq t a b (k + 1) ≤ sq t a b (k + d + 1) := fun d => by
    induction d with
    | zero => exact Rat.le_refl
    | succ d ih =>
      have := (grow ht (k + d + 1) a b h0 h1).2.1
      rw [show k + (d + 1) + 1 = k + d + 1 + 1 by omega]
      grind
  have mj := mono (j - k)
  rw [show k + (j - k) + 1 = j + 1 by omega] at mj
  suffices V < pw (3 / 2) k * b by grind
  have p := pw_pos (c := 3 / 2) (by grind) k
  refine Classical.byContradiction fun n => ?_
  have n' : pw (3 / 2) k * b ≤ V := Rat.not_lt.mp n
  have pb := Rat.mul_nonneg (Rat.le_of_lt p) hb
  have s1 := mul_le n' pb
  have s2 := mul_le n' V0
  have e := pw_sq (3 / 2) k
  have bb := Rat.mul_nonneg hb hb
  have le := mul_le ((pw_le (c := 2) (d := 3 / 2 * (3 / 2)) (by grind) (by grind) k).2) bb
  have p2 := pw_pos (c := 2) (by decide) k
  have fin1 := mul_le hb1 (Rat.le_of_lt p2)
  have s3 : pw (3 / 2 * (3 / 2)) k * (b * b) ≤ V * V := by
    rw [← e]
    grind
  have s4 : pw 2 k * (b * b) ≤ V * V := by grind
  have s5 := mul_le s4 W0
  grind
theorem beyond {t a b E V : Rat} {k : Nat} (ht : 5 / 2 ≤ t) (E0 : 0 < E) (hF : 1 ≤ Fm t a b * E ∨ 1 ≤ -Fm t a b * E) (hu : Up a b) (V0 : 0 ≤ V) (hk : V * V * (t * E) < pw 2 k) : ∀ j, k ≤ j → V < sq t a b (j + 1) := by
  have h0 := hu.1
  have h1 := hu.2
  have hb : 0 ≤ b := by grind
  obtain ⟨q1, q2⟩ := ft_pos (t := t) (a := b) (b := a) ht h0 h1
  have sw : Fm t b a = Fm t a b := by unfold Fm; grind
  rw [sw] at q1 q2
  have tE : 0 ≤ t * E := Rat.mul_nonneg (by grind) (Rat.le_of_lt E0)
  refine beyondW ht tE ?_ hu V0 hk
  have w1 := mul_le q1 (Rat.le_of_lt E0)
  have w2 := mul_le q2 (Rat.le_of_lt E0)
  rcases hF with hF | hF
  · grind
  · grind
theorem dense_le {t a b β : Rat} (hb : 0 ≤ β) (ht : t * t < 4) (h : 4 * Fm t a b ≤ β * β * (4 - t * t)) (n : Nat) : sq t a b n ≤ β := by
  have f := fm_sq t n a b
  generalize sq t a b n = x at *
  generalize sq t a b (n + 1) = y at *
  rw [← f] at h
  have s := sq_nn (2 * y - t * x)
  unfold Fm at h
  have : x * x * (4 - t * t) ≤ β * β * (4 - t * t) := by grind
  refine Classical.byContradiction fun no => ?_
  have no' : β < x := Rat.not_le.mp no
  have m1 := Rat.mul_pos (show 0 < x - β by grind) (show 0 < x + β by grind)
  have m2 := Rat.mul_pos m1 (show 0 < 4 - t * t by grind)
  grind
theorem sq_per {t a b : Rat} {p : Nat} (h0 : sq t a b p = a) (h1 : sq t a b (p + 1) = b) (n : Nat) : sq t a b (p + n) = sq t a b n := by
  rw [← sq_shift, h0, h1]
theorem sq_mod {t a b : Rat} {p : Nat} (hp : 0 < p) (h0 : sq t a b p = a) (h1 : sq t a b (p + 1) = b) : ∀ n, ∃ i, i < p ∧ sq t a b n = sq t a b i := fun n => by
  induction n using Nat.strongRecOn with
  | _ n ih =>
    by_cases c : n < p
    · exact ⟨n, c, rfl⟩
    · obtain ⟨i, hi, e⟩ := ih (n - p) (by omega)
      refine ⟨i, hi, ?_⟩
      rw [← e, ← sq_per h0 h1 (n - p), show p + (n - p) = n by omega]
theorem cyc3 (a b : Rat) : sq (-1) a b 3 = a ∧ sq (-1) a b 4 = b := by
  simp only [sq]
  exact ⟨by grind, by grind⟩
theorem cyc4 (a b : Rat) : sq 0 a b 4 = a ∧ sq 0 a b 5 = b := by
  simp only [sq]
  exact ⟨by grind, by grind⟩
theorem cyc6 (a b : Rat) : sq 1 a b 6 = a ∧ sq 1 a b 7 = b := by
  simp only [sq]
  exact ⟨by grind, by grind⟩
theorem sq_two : ∀ (n : Nat) (a b : Rat), sq 2 a b n = a + (n : Rat) * (b - a)
  | 0, a, b => by
    show a = a + ((0 : Nat) : Rat) * (b - a)
    have : ((0 : Nat) : Rat) = 0 := rfl
    rw [this]
    grind
  | n + 1, a, b => by
    show sq 2 b (2 * b - a) n = _
    rw [sq_two n, Rat.natCast_add]
    have : ((1 : Nat) : Rat) = 1 := rfl
    rw [this]
    grind
theorem sq_mtwo (n : Nat) (a b : Rat) : sq (-2) a b n = if n % 2 = 0 then a + (n : Rat) * (-b - a) else -(a + (n : Rat) * (-b - a)) := by
  have := sq_alt 2 n a (-b)
  rw [Rat.neg_neg, sq_two] at this
  exact this

theorem line_zero {t a b : Rat} (h : Fm t a b = 0) (ha : a = 0) : b = 0 := by
  unfold Fm at h
  subst ha
  have : b * b = 0 := by grind
  rcases Rat.mul_eq_zero.mp this with h | h <;> exact h
theorem sq_zero (t : Rat) : ∀ n, sq t 0 0 n = 0
  | 0 => rfl
  | n + 1 => by
    show sq t 0 (t * 0 - 0) n = 0
    rw [show t * 0 - 0 = 0 by grind]
    exact sq_zero t n
theorem line_ratio {t a b : Rat} (h : Fm t a b = 0) : ∀ n, a * sq t a b (n + 1) = b * sq t a b n := fun n => by
  by_cases ha : a = 0
  · have := line_zero h ha
    subst ha this
    rw [sq_zero, sq_zero]
  induction n with
  | zero =>
    show a * b = b * a
    grind
  | succ n ih =>
    rw [sq_rec]
    generalize sq t a b (n + 1) = y at *
    generalize sq t a b n = x at *
    have k : a * (a * (t * y - x) - b * y) = 0 := by
      unfold Fm at h
      have : a * (a * (t * y - x) - b * y) = (t * (a * (a * y)) - a * a * x) - b * (a * y) := by grind
      rw [this, ih]
      have : (t * (a * (b * x)) - a * a * x) - b * (b * x) = -(a * a - t * a * b + b * b) * x := by grind
      rw [this, h]
      grind
    have := (Rat.mul_eq_zero.mp k).resolve_left ha
    grind
theorem line_shrink {t a b : Rat} (ht : 25 / 4 ≤ t * t) (hF : Fm t a b = 0) (h : b * b ≤ a * a) (ha : a ≠ 0) : 4 * (b * b) ≤ a * a := by
  have sa := sq_nn a
  have sb := sq_nn b
  have a2 : 0 < a * a := by
    refine Classical.byContradiction fun n => ha ?_
    have : a * a = 0 := by grind
    rcases Rat.mul_eq_zero.mp this with h | h <;> exact h
  unfold Fm at hF
  have e : (a * a + b * b) * (a * a + b * b) = t * t * (a * a * (b * b)) := by
    have : a * a + b * b = t * a * b := by grind
    rw [this]
    grind
  have m := mul_le ht (Rat.mul_nonneg sa sb)
  generalize a * a = A at *
  generalize b * b = B at *
  refine Classical.byContradiction fun no => ?_
  have p := Rat.mul_pos (show 0 < 4 * A - B by grind) (show 0 < 4 * B - A by grind)
  grind
theorem line_sq {t a b : Rat} (ht : 25 / 4 ≤ t * t) (hF : Fm t a b = 0) (h : b * b ≤ a * a) (ha : a ≠ 0) (n : Nat) : pw 4 n * (sq t a b n * sq t a b n) ≤ a * a := by
  have a2 : 0 < a * a := by
    have := sq_nn a
    refine Classical.byContradiction fun n => ha ?_
    have : a * a = 0 := by grind
    rcases Rat.mul_eq_zero.mp this with h | h <;> exact h
  have sh := line_shrink ht hF h ha
  induction n with
  | zero =>
    unfold pw
    show 1 * (a * a) ≤ a * a
    grind
  | succ n ih =>
    have r := line_ratio hF n
    unfold pw
    generalize sq t a b (n + 1) = y at *
    generalize sq t a b n = x at *
    have e : a * a * (y * y) = b * b * (x * x) := by
      have : a * a * (y * y) = (a * y) * (a * y) := by grind
      rw [this, r]
      grind
    have k := mul_le sh (sq_nn x)
    have : 4 * (y * y) ≤ x * x := by
      refine Classical.byContradiction fun no => ?_
      have := Rat.mul_pos a2 (show 0 < 4 * (y * y) - x * x by grind)
      grind
    have := mul_le this (Rat.le_of_lt (pw_pos (c := 4) (by decide) n))
    grind
theorem line_ge {t a b β : Rat} (hF : Fm t a b = 0) (h : b * b ≤ a * a) (h1 : a ≤ β) (h2 : b ≤ β) (h0 : 0 ≤ β) : ∀ n, sq t a b n ≤ β ∧ sq t a b (n + 1) ≤ β := fun n => by
  by_cases ha : a = 0
  · have := line_zero hF ha
    subst ha this
    rw [sq_zero, sq_zero]
    exact ⟨h0, h0⟩
  have a2 : 0 < a * a := by
    have := sq_nn a
    refine Classical.byContradiction fun n => ha ?_
    have : a * a = 0 := by grind
    rcases Rat.mul_eq_zero.mp this with h | h <;> exact h
  induction n with
  | zero => exact ⟨h1, h2⟩
  | succ n ih =>
    refine ⟨ih.2, ?_⟩
    have r1 := line_ratio hF n
    have r2 := line_ratio hF (n + 1)
    obtain ⟨ih, _⟩ := ih
    show sq t a b (n + 2) ≤ β
    generalize sq t a b (n + 2) = z at *
    generalize sq t a b (n + 1) = y at *
    generalize sq t a b n = x at *
    have e : a * a * z = b * b * x := by
      have : a * a * z = a * (a * z) := by grind
      rw [this, show a * z = b * y from r2, show a * (b * y) = b * (a * y) by grind, r1]
      grind
    refine Classical.byContradiction fun no => ?_
    have p := Rat.mul_pos a2 (show 0 < z - β by grind)
    by_cases c : 0 ≤ x
    · have m := mul_le h c
      have m2 := mul_le ih (sq_nn a)
      grind
    · have m := mul_le (show x ≤ 0 by grind) (sq_nn b)
      have m2 := mul_le h0 (sq_nn a)
      grind
theorem line_lt {t a b β W : Rat} {n : Nat} (ht : 25 / 4 ≤ t * t) (hF : Fm t a b = 0) (h : b * b ≤ a * a) (hb : β < 0) (hW : 1 ≤ β * β * W) (W0 : 0 ≤ W) (hn : a * a * W < pw 4 n) : β < sq t a b n := by
  by_cases ha : a = 0
  · have := line_zero hF ha
    subst ha this
    rw [sq_zero]
    exact hb
  have l := line_sq ht hF h ha n
  generalize sq t a b n = x at *
  refine Classical.byContradiction fun no => ?_
  have no' : x ≤ β := Rat.not_lt.mp no
  have s : β * β ≤ x * x := by
    have := Rat.mul_nonneg (show 0 ≤ -(x - β) by grind) (show 0 ≤ -(x + β) by grind)
    grind
  have p := Rat.le_of_lt (pw_pos (c := 4) (by decide) n)
  have m1 := mul_le s p
  have m2 := mul_le hW p
  have m3 := mul_le (show pw 4 n * (β * β) ≤ a * a by grind) W0
  grind
end C
end PG

set_option maxRecDepth 100000
set_option maxHeartbeats 4000000

namespace PG
namespace C
open PySem PySem.Spec PyProof.Rows L2 RT
theorem nat_cast_le {n m : Nat} (h : n ≤ m) : (n : Rat) ≤ (m : Rat) := Rat.natCast_le_natCast.mpr h
theorem in_abs {D V : Nat} {q : Rat} (hD : 0 < D) (h : In D V q) : q ≤ (V : Rat) ∧ -(V : Rat) ≤ q := by
  obtain ⟨n, h1, h2⟩ := h
  have d0 : (0 : Rat) < (D : Rat) := Rat.natCast_pos.mpr hD
  have e1 : n ≤ ((V * D : Nat) : Int) := by omega
  have e2 : -((V * D : Nat) : Int) ≤ n := by omega
  have c1 : (n : Rat) ≤ (((V * D : Nat) : Int) : Rat) := Rat.intCast_le_intCast.mpr e1
  have c2 : ((-((V * D : Nat) : Int) : Int) : Rat) ≤ (n : Rat) := Rat.intCast_le_intCast.mpr e2
  have cc : (((V * D : Nat) : Int) : Rat) = (V : Rat) * (D : Rat) := by
    rw [Rat.intCast_natCast, Rat.natCast_mul]
  rw [Rat.intCast_neg, cc] at c2
  rw [cc] at c1
  refine ⟨?_, ?_⟩
  · refine Classical.byContradiction fun no => ?_
    have := Rat.mul_pos (show 0 < q - (V : Rat) by grind) d0
    grind
  · refine Classical.byContradiction fun no => ?_
    have := Rat.mul_pos (show 0 < -(V : Rat) - q by grind) d0
    grind
theorem int_sq {n : Int} (h : n ≠ 0) : (1 : Rat) ≤ (n : Rat) * (n : Rat) := by
  have : (1 : Int) ≤ n * n := by
    rcases Int.lt_or_gt_of_ne h with c | c
    · have := Int.mul_pos (show 0 < -n by omega) (show 0 < -n by omega)
      rw [Int.neg_mul_neg] at this
      omega
    · have := Int.mul_pos c c
      omega
  have := Rat.intCast_le_intCast.mpr this
  rw [Rat.intCast_mul] at this
  exact this
theorem int_one {n : Int} (h : n ≠ 0) : (1 : Rat) ≤ (n : Rat) ∨ (1 : Rat) ≤ -(n : Rat) := by
  rcases Int.lt_or_gt_of_ne h with c | c
  · right
    have := Rat.intCast_le_intCast.mpr (show (1 : Int) ≤ -n by omega)
    rw [Rat.intCast_neg] at this
    exact this
  · left
    exact Rat.intCast_le_intCast.mpr (show (1 : Int) ≤ n by omega)
theorem in_sq {D V : Nat} {q : Rat} (h : In D V q) (h0 : q ≠ 0) (hD : 0 < D) : 1 ≤ q * q * ((D : Rat) * (D : Rat)) := by
  obtain ⟨n, h1, h2⟩ := h
  have d0 : (0 : Rat) < (D : Rat) := Rat.natCast_pos.mpr hD
  have n0 : n ≠ 0 := fun e => by
    rw [e] at h1
    have h1 : q * (D : Rat) = 0 := h1
    rcases Rat.mul_eq_zero.mp h1 with h | h
    · exact h0 h
    · grind
  have := int_sq n0
  rw [← h1] at this
  grind
theorem fm_int {D V q0 : Nat} {t a b : Rat} {p : Int} (ht : t * (q0 : Rat) = (p : Rat)) (ha : In D V a) (hb : In D V b) (h0 : Fm t a b ≠ 0) (hD : 0 < D) (hq : 0 < q0) :
    1 ≤ Fm t a b * ((D : Rat) * (D : Rat) * (q0 : Rat)) ∨ 1 ≤ -Fm t a b * ((D : Rat) * (D : Rat) * (q0 : Rat)) := by
  obtain ⟨x, x1, _⟩ := ha
  obtain ⟨y, y1, _⟩ := hb
  have d0 : (0 : Rat) < (D : Rat) := Rat.natCast_pos.mpr hD
  have d1 : (0 : Rat) < (q0 : Rat) := Rat.natCast_pos.mpr hq
  have e : Fm t a b * ((D : Rat) * (D : Rat) * (q0 : Rat)) = ((x * x * q0 - p * x * y + y * y * q0 : Int) : Rat) := by
    rw [Rat.intCast_add, Rat.intCast_sub, Rat.intCast_mul, Rat.intCast_mul, Rat.intCast_mul, Rat.intCast_mul, Rat.intCast_mul, Rat.intCast_mul, Rat.intCast_natCast, ← x1, ← y1, ← ht]
    unfold Fm
    grind
  have n0 : (x * x * q0 - p * x * y + y * y * q0 : Int) ≠ 0 := fun z => by
    rw [z] at e
    have e : Fm t a b * ((D : Rat) * (D : Rat) * (q0 : Rat)) = 0 := e
    rcases Rat.mul_eq_zero.mp e with h | h
    · exact h0 h
    · rcases Rat.mul_eq_zero.mp h with h | h
      · rcases Rat.mul_eq_zero.mp h with h | h <;> grind
      · grind
  rw [show -Fm t a b * ((D : Rat) * (D : Rat) * (q0 : Rat)) = -(Fm t a b * ((D : Rat) * (D : Rat) * (q0 : Rat))) by grind, e]
  exact int_one n0
structure Nums (D V q0 T N : Nat) (t a b β : Rat) : Prop where
  D0 : 0 < D
  q0' : 0 < q0
  a : In D V a
  b : In D V b
  β : In D V β
  t1 : t ≤ (T : Rat)
  t2 : -(T : Rat) ≤ t
  tp : ∃ p : Int, t * (q0 : Rat) = (p : Rat)
  T1 : 1 ≤ T
  big : V * V * (T * (D * D * q0)) < 2 ^ N
section
variable {D V q0 T N : Nat} {t a b β : Rat}
theorem sq_le_sq {x v : Rat} (h1 : x ≤ v) (h2 : -v ≤ x) : x * x ≤ v * v := by
  have := Rat.mul_nonneg (show 0 ≤ v - x by grind) (show 0 ≤ v + x by grind)
  grind
theorem Nums.bg (n : Nums D V q0 T N t a b β) : (V : Rat) * V * ((T : Rat) * ((D : Rat) * D * q0)) < pw 2 N := by
  rw [pw_two]
  have := Rat.natCast_lt_natCast.mpr n.big
  rw [Rat.natCast_mul, Rat.natCast_mul, Rat.natCast_mul, Rat.natCast_mul, Rat.natCast_mul] at this
  exact this
theorem Nums.pos (n : Nums D V q0 T N t a b β) : (0 : Rat) < (D : Rat) ∧ (0 : Rat) < (q0 : Rat) ∧ (0 : Rat) ≤ (V : Rat) ∧ (1 : Rat) ≤ (T : Rat) :=
  ⟨Rat.natCast_pos.mpr n.D0, Rat.natCast_pos.mpr n.q0', by have := nat_cast_le (Nat.zero_le V); exact this, by have := nat_cast_le n.T1; exact this⟩
theorem Nums.dd (n : Nums D V q0 T N t a b β) : (1 : Rat) ≤ (D : Rat) ∧ (1 : Rat) ≤ (q0 : Rat) := ⟨nat_cast_le n.D0, nat_cast_le n.q0'⟩
theorem Nums.small (n : Nums D V q0 T N t a b β) {x : Rat} (hx : In D V x) {c : Rat} (c0 : 0 ≤ c) (c1 : c ≤ (T : Rat)) : c * (x * x) * ((D : Rat) * D * q0) < pw 2 N := by
  obtain ⟨h1, h2⟩ := in_abs n.D0 hx
  have s := sq_le_sq h1 h2
  obtain ⟨d0, q0p, v0, t1⟩ := n.pos
  have E0 : (0 : Rat) ≤ (D : Rat) * D * q0 := Rat.mul_nonneg (Rat.mul_nonneg (Rat.le_of_lt d0) (Rat.le_of_lt d0)) (Rat.le_of_lt q0p)
  have g := n.bg
  have m1 := mul_le s c0
  have m2 := mul_le c1 (Rat.mul_nonneg v0 v0)
  generalize (D : Rat) * D * q0 = E at *
  have m3 := mul_le (show c * (x * x) ≤ (T : Rat) * ((V : Rat) * V) by grind) E0
  grind
theorem Nums.sqb (n : Nums D V q0 T N t a b β) : (V : Rat) * V * ((D : Rat) * D) < pw 2 N := by
  obtain ⟨d0, q0p, v0, t1⟩ := n.pos
  obtain ⟨d1, q1⟩ := n.dd
  have g := n.bg
  have v2 := Rat.mul_nonneg v0 v0
  have d2 := Rat.mul_nonneg (Rat.le_of_lt d0) (Rat.le_of_lt d0)
  have vd := Rat.mul_nonneg v2 d2
  have tq : 1 ≤ (T : Rat) * q0 := by
    have := mul_le q1 (show 0 ≤ (T : Rat) by grind)
    grind
  have := mul_le tq vd
  grind
theorem Nums.fm (n : Nums D V q0 T N t a b β) (h : Fm t a b ≠ 0) : 1 ≤ Fm t a b * ((D : Rat) * D * q0) ∨ 1 ≤ -Fm t a b * ((D : Rat) * D * q0) := by
  obtain ⟨p, hp⟩ := n.tp
  exact fm_int hp n.a n.b h n.D0 n.q0'
theorem fm_alt (t a b : Rat) : Fm (-t) a (-b) = Fm t a b := by
  unfold Fm
  grind
theorem Nums.alt (n : Nums D V q0 T N t a b β) : Nums D V q0 T N (-t) a (-b) β :=
  ⟨n.D0, n.q0', n.a, in_neg n.b, n.β, by have := n.t2; grind, by have := n.t1; grind, by
    obtain ⟨p, hp⟩ := n.tp
    exact ⟨-p, by rw [Rat.neg_mul, hp, Rat.intCast_neg]⟩, n.T1, n.big⟩
theorem Nums.turn (n : Nums D V q0 T N t a b β) (ht : 5 / 2 ≤ t) (h : Fm t a b ≠ 0) : ∃ i, i ≤ N + 1 ∧ (Up (sq t a b i) (sq t a b (i + 1)) ∨ Down (sq t a b i) (sq t a b (i + 1))) := by
  obtain ⟨d0, q0p, v0, t1⟩ := n.pos
  have E0 : (0 : Rat) < (D : Rat) * D * q0 := Rat.mul_pos (Rat.mul_pos d0 d0) q0p
  exact turns ht E0 (n.fm h) (n.small n.a (by grind) n.t1)
theorem Nums.far (n : Nums D V q0 T N t a b β) (ht : 5 / 2 ≤ t) (h : Fm t a b ≠ 0) {i : Nat} (hu : Up (C.sq t a b i) (C.sq t a b (i + 1))) : ∀ j, i + 1 + N ≤ j → (V : Rat) < C.sq t a b j := fun j hj => by
  obtain ⟨d0, q0p, v0, t1⟩ := n.pos
  have E0 : (0 : Rat) < (D : Rat) * D * q0 := Rat.mul_pos (Rat.mul_pos d0 d0) q0p
  have f := n.fm h
  rw [← fm_sq t i] at f
  have tb : (V : Rat) * V * (t * ((D : Rat) * D * q0)) < pw 2 N := by
    have g := n.bg
    have m := mul_le n.t1 (show (0 : Rat) ≤ (V : Rat) * V * ((D : Rat) * D * q0) by
      exact Rat.mul_nonneg (Rat.mul_nonneg v0 v0) (Rat.le_of_lt E0))
    grind
  have := beyond ht E0 f hu v0 tb (j - i - 1) (by omega)
  rw [sq_shift, show i + (j - i - 1 + 1) = j by omega] at this
  exact this
theorem Nums.far' (n : Nums D V q0 T N t a b β) (ht : 5 / 2 ≤ t) (h : Fm t a b ≠ 0) {i : Nat} (hu : Down (C.sq t a b i) (C.sq t a b (i + 1))) : ∀ j, i + 1 + N ≤ j → C.sq t a b j < -(V : Rat) := fun j hj => by
  have n' : Nums D V q0 T N t (-a) (-b) β := ⟨n.D0, n.q0', in_neg n.a, in_neg n.b, n.β, n.t1, n.t2, n.tp, n.T1, n.big⟩
  have h' : Fm t (-a) (-b) ≠ 0 := by rw [fm_neg]; exact h
  have := n'.far ht h' (i := i) (by
    rw [sq_neg, sq_neg]
    exact up_neg.mpr hu) j hj
  rw [sq_neg] at this
  grind
theorem down_all (ht : 5 / 2 ≤ t) {i : Nat} (hu : Down (sq t a b i) (sq t a b (i + 1))) : ∀ j, i ≤ j → sq t a b j ≤ sq t a b i := fun j hj => by
  have := fall ht (j - i) hu.1 hu.2
  rw [sq_shift, show i + (j - i) = j by omega] at this
  exact this
theorem Nums.lines (n : Nums D V q0 T N t a b β) (ht : 5 / 2 ≤ t ∨ t ≤ -(5 / 2)) (h : Fm t a b = 0) (hs : a * a < b * b) (hn : ¬ (a < 0 ∧ b < 0)) : ∃ j, j ≤ N + 2 ∧ (V : Rat) < C.sq t a b j := by
  have b0 : b ≠ 0 := fun e => by
    rw [e] at hs
    have := sq_nn a
    grind
  have hb := in_sq n.b b0 n.D0
  obtain ⟨d0, q0p, v0, t1⟩ := n.pos
  have dd : (0 : Rat) ≤ (D : Rat) * D := Rat.mul_nonneg (Rat.le_of_lt d0) (Rat.le_of_lt d0)
  have a0 : a ≠ 0 := fun e => b0 (line_zero h e)
  have hb1 : 1 ≤ (D : Rat) * D * (b * b) := by grind
  have fm := h
  unfold Fm at fm
  by_cases ca : 0 < a
  · by_cases cb : 0 < b
    · have t0 : 0 < t := by
        refine Classical.byContradiction fun no => ?_
        have p1 := Rat.mul_pos ca cb
        have := mul_le (show t ≤ 0 by grind) (Rat.le_of_lt p1)
        have := sq_nn a
        have := Rat.mul_pos cb cb
        grind
      have ht5 : 5 / 2 ≤ t := by grind
      have ab : a ≤ b := by
        refine Classical.byContradiction fun no => ?_
        have := Rat.mul_pos (show 0 < a - b by grind) (show 0 < a + b by grind)
        grind
      exact ⟨N + 1, by omega, beyondW ht5 dd hb1 ⟨Rat.le_of_lt ca, ab⟩ v0 n.sqb N (Nat.le_refl _)⟩
    · have cb : b < 0 := by grind
      have t0 : t < 0 := by
        refine Classical.byContradiction fun no => ?_
        have p1 := Rat.mul_pos ca (show 0 < -b by grind)
        have := mul_le (show 0 ≤ t by grind) (Rat.le_of_lt p1)
        have := sq_nn b
        have := Rat.mul_pos ca ca
        grind
      have ht5 : 5 / 2 ≤ -t := by grind
      have ab : a ≤ -b := by
        refine Classical.byContradiction fun no => ?_
        have := Rat.mul_pos (show 0 < a + b by grind) (show 0 < a - b by grind)
        grind
      have key := beyondW (t := -t) (a := a) (b := -b) ht5 dd (by grind) ⟨Rat.le_of_lt ca, ab⟩ v0 n.sqb
      by_cases par : N % 2 = 0
      · have := key (N + 1) (by omega)
        rw [sq_alt, if_pos (by omega)] at this
        exact ⟨N + 2, Nat.le_refl _, this⟩
      · have := key N (by omega)
        rw [sq_alt, if_pos (by omega)] at this
        exact ⟨N + 1, by omega, this⟩
  · have ca : a < 0 := by grind
    have cb : 0 < b := by
      refine Classical.byContradiction fun no => hn ⟨ca, by grind⟩
    have t0 : t < 0 := by
      refine Classical.byContradiction fun no => ?_
      have p1 := Rat.mul_pos (show 0 < -a by grind) cb
      have := mul_le (show 0 ≤ t by grind) (Rat.le_of_lt p1)
      have := sq_nn b
      have := Rat.mul_pos (show 0 < -a by grind) (show 0 < -a by grind)
      grind
    have ht5 : 5 / 2 ≤ -t := by grind
    have ab : -a ≤ b := by
      refine Classical.byContradiction fun no => ?_
      have := Rat.mul_pos (show 0 < -a - b by grind) (show 0 < -a + b by grind)
      grind
    have key := beyondW (t := -t) (a := -a) (b := b) ht5 dd hb1 ⟨by grind, ab⟩ v0 n.sqb
    have conv : ∀ j, sq (-t) (-a) b j = if j % 2 = 0 then -sq t a b j else sq t a b j := fun j => by
      have := sq_alt t j (-a) (-b)
      rw [Rat.neg_neg, sq_neg, Rat.neg_neg] at this
      exact this
    by_cases par : N % 2 = 0
    · have := key N (by omega)
      rw [conv, if_neg (by omega)] at this
      exact ⟨N + 1, by omega, this⟩
    · have := key (N + 1) (by omega)
      rw [conv, if_neg (by omega)] at this
      exact ⟨N + 2, by omega, this⟩
theorem Nums.alters (n : Nums D V q0 T N t a b β) (ht : t ≤ -(5 / 2)) (h : Fm t a b ≠ 0) : ∃ j, j ≤ 2 * N + 3 ∧ (V : Rat) < C.sq t a b j := by
  have ht5 : 5 / 2 ≤ -t := by grind
  have n' := n.alt
  have h' : Fm (-t) a (-b) ≠ 0 := by rw [fm_alt]; exact h
  obtain ⟨i, hi, hu⟩ := n'.turn ht5 h'
  rcases hu with hu | hu
  · have key := n'.far ht5 h' hu
    by_cases par : (i + 1 + N) % 2 = 0
    · have := key (i + 1 + N) (Nat.le_refl _)
      rw [sq_alt, if_pos par] at this
      exact ⟨_, by omega, this⟩
    · have := key (i + 1 + N + 1) (by omega)
      rw [sq_alt, if_pos (by omega)] at this
      exact ⟨_, by omega, this⟩
  · have key := n'.far' ht5 h' hu
    by_cases par : (i + 1 + N) % 2 = 0
    · have := key (i + 1 + N + 1) (by omega)
      rw [sq_alt, if_neg (by omega)] at this
      exact ⟨i + 1 + N + 1, by omega, by grind⟩
    · have := key (i + 1 + N) (Nat.le_refl _)
      rw [sq_alt, if_neg par] at this
      exact ⟨i + 1 + N, by omega, by grind⟩
theorem t_sq (ht : 5 / 2 ≤ t ∨ t ≤ -(5 / 2)) : 25 / 4 ≤ t * t := by
  rcases ht with h | h
  · have := Rat.mul_nonneg (show 0 ≤ t - 5 / 2 by grind) (show 0 ≤ t + 5 / 2 by grind)
    grind
  · have := Rat.mul_nonneg (show 0 ≤ -t - 5 / 2 by grind) (show 0 ≤ -t + 5 / 2 by grind)
    grind
theorem pw24 (n : Nat) : pw 2 n ≤ pw 4 n := (pw_le (c := 2) (d := 4) (by decide) (by decide) n).2
theorem Nums.lt0 (n : Nums D V q0 T N t a b β) (ht : 5 / 2 ≤ t ∨ t ≤ -(5 / 2)) (h : Fm t a b = 0) (hs : b * b ≤ a * a) (hb : β < 0) : β < C.sq t a b N := by
  obtain ⟨d0, q0p, v0, t1⟩ := n.pos
  have dd : (0 : Rat) ≤ (D : Rat) * D := Rat.mul_nonneg (Rat.le_of_lt d0) (Rat.le_of_lt d0)
  obtain ⟨h1, h2⟩ := in_abs n.D0 n.a
  have s := mul_le (sq_le_sq h1 h2) dd
  have g := n.sqb
  have p := pw24 N
  exact line_lt (t_sq ht) h hs hb (in_sq n.β (by grind) n.D0) dd (by grind)
theorem Nums.early (n : Nums D V q0 T N t a b β) (ht : 5 / 2 ≤ t ∨ t ≤ -(5 / 2)) (h : ∃ j, β < C.sq t a b j) : ∃ j, j ≤ 2 * N + 3 ∧ β < C.sq t a b j := by
  obtain ⟨bv, _⟩ := in_abs n.D0 n.β
  by_cases hf : Fm t a b = 0
  · by_cases hs : a * a < b * b
    · by_cases hn : a < 0 ∧ b < 0
      · have t0 : 5 / 2 ≤ t := by
          rcases ht with h | h
          · exact h
          · exfalso
            have p1 := Rat.mul_pos (show 0 < -a by grind) (show 0 < -b by grind)
            have := mul_le (show t ≤ 0 by grind) (Rat.le_of_lt p1)
            have := Rat.mul_pos (show 0 < -a by grind) (show 0 < -a by grind)
            have := Rat.mul_pos (show 0 < -b by grind) (show 0 < -b by grind)
            unfold Fm at hf
            grind
        obtain ⟨j, hj⟩ := h
        have ab : b ≤ a := by
          refine Classical.byContradiction fun no => ?_
          have := Rat.mul_pos (show 0 < b - a by grind) (show 0 < -(a + b) by grind)
          grind
        have := fall t0 j (Rat.le_of_lt hn.1) ab
        exact ⟨0, by omega, by show β < a; grind⟩
      · obtain ⟨j, h1, h2⟩ := n.lines ht hf hs hn
        exact ⟨j, by omega, by grind⟩
    · have hs : b * b ≤ a * a := Rat.not_lt.mp hs
      by_cases hb : 0 ≤ β
      · by_cases ha : a ≤ β
        · by_cases hbb : b ≤ β
          · obtain ⟨j, hj⟩ := h
            have := (line_ge hf hs ha hbb hb j).1
            grind
          · exact ⟨1, by omega, by show β < b; grind⟩
        · exact ⟨0, by omega, by show β < a; grind⟩
      · exact ⟨N, by omega, n.lt0 ht hf hs (by grind)⟩
  · rcases ht with ht | ht
    · obtain ⟨i, hi, hu⟩ := n.turn ht hf
      rcases hu with hu | hu
      · exact ⟨i + 1 + N, by omega, by have := n.far ht hf hu _ (Nat.le_refl _); grind⟩
      · obtain ⟨j, hj⟩ := h
        by_cases c : j ≤ i
        · exact ⟨j, by omega, hj⟩
        · have := down_all ht hu j (by omega)
          exact ⟨i, by omega, by grind⟩
    · obtain ⟨j, h1, h2⟩ := n.alters ht hf
      exact ⟨j, h1, by grind⟩
end
end C
end PG

set_option maxRecDepth 100000
set_option maxHeartbeats 4000000

namespace PG
open PySem PySem.Spec PyProof.Rows L2 RT
section
variable {st : List Cell} {Q : Vl → List Cell → Prop}
theorem planesOf_len : ∀ (k : Nat) (m : Mp) (es : List El), (planesOf k m es).length ≤ 2 * es.length
  | _, _, [] => Nat.le_refl _
  | k, m, e :: es => by
    show (edgesAt k e m ++ planesOf (k + 1) (comp m (elM e)) es).length ≤ _
    rw [List.length_append, List.length_cons]
    have := edgesAt_len k e m
    have := planesOf_len (k + 1) (comp m (elM e)) es
    omega
end
end PG

set_option maxRecDepth 100000
set_option maxHeartbeats 4000000

namespace PG
open PySem PySem.Spec PyProof.Rows L2 RT
section
variable {st : List Cell} {Q : Vl → List Cell → Prop}
end
end PG

set_option maxRecDepth 100000
set_option maxHeartbeats 4000000

namespace PG
open PySem PySem.Spec PyProof.Rows L2 RT
abbrev EP := Ed × Hp3
section
variable {st : List Cell} {Q : Vl → List Cell → Prop}
end
end PG

set_option maxRecDepth 100000
set_option maxHeartbeats 4000000
namespace PG
open PySem PySem.Spec PyProof.Rows L2 RT
structure Sl (k W : Nat) (d : Dt) : Prop where
  shw : (toPy d).showable = true
  itg : (toPy d).intsShort 600 = true
  lay : (toPy d).canLay0 = true
  dep : (toPy d).depth ≤ k
  wt : (toPy d).weight ≤ W
theorem Sl.le {k W k' W' : Nat} {d : Dt} (h : Sl k W d) (h1 : k ≤ k') (h2 : W ≤ W') : Sl k' W' d := ⟨h.shw, h.itg, h.lay, Nat.le_trans h.dep h1, Nat.le_trans h.wt h2⟩
theorem Sl.shows {k W : Nat} {d : Dt} (h : Sl k W d) (hk : k ≤ 60) (hW : W ≤ 20000) : shows d := by
  refine ⟨h.shw, Nat.le_trans h.dep hk, ?_⟩
  have h2 := PyData.shown_le 600 (by decide) (toPy d) (PyData.leavesShort_of_canLay0 600 (toPy d) h.lay h.itg)
  have := h.wt
  show (toPy d).shown.length ≤ 16777216
  omega

section
variable {st : List Cell} {Q : Vl → List Cell → Prop}
end
end PG

set_option maxRecDepth 100000
set_option maxHeartbeats 4000000
namespace PG
open PySem PySem.Spec PyProof.Rows L2 RT

theorem befR_iff {a b : Ray} : befR a b = true ↔ a.1 < b.1 ∨ (a.1 = b.1 ∧ a.2 < b.2) := by
  unfold befR
  by_cases c : a.1 = b.1
  · rw [if_pos c, decide_eq_true_iff]
    grind
  · rw [if_neg c, decide_eq_true_iff]
    grind
theorem befR_asymm {a b : Ray} (h : befR a b = true) : befR b a = false := by
  rw [← Bool.not_eq_true, befR_iff]
  rw [befR_iff] at h
  grind
theorem befR_irrefl (a : Ray) : befR a a = false := by
  rw [← Bool.not_eq_true, befR_iff]
  grind
def SrtR (l : List Ray) : Prop := l.Pairwise fun a b => befR a b = true
theorem corners_mem {hs : List Hp3} {y : Ray} : y ∈ corners hs ↔ Rg hs y ∧ ∃ g ∈ hs, ∃ k ∈ hs, meetR g k = some y := by
  unfold corners
  rw [cor_mem]
  simp

end PG

set_option maxRecDepth 100000
set_option maxHeartbeats 4000000
namespace PG
open PySem PySem.Spec PyProof.Rows L2 RT
section
variable {st : List Cell} {Q : Vl → List Cell → Prop} {hs : List Hp3} {n : Nat} {g : Hp3} {x : Ray}
end
end PG

set_option maxRecDepth 100000
set_option maxHeartbeats 4000000
namespace PG
open PySem PySem.Spec PyProof.Rows L2 RT
end PG

set_option maxRecDepth 100000
set_option maxHeartbeats 4000000
namespace PG
open PySem PySem.Spec PyProof.Rows L2 RT
theorem inf_is {p q : Rat} {hs : List Hp3} (hd : ∀ g ∈ hs, Dir g) {x0 : Ray} (hx : Rg hs x0) : match infF p q hs with
    | none => ∀ m, ∃ x, Rg hs x ∧ lin2 p q x ≤ m
    | some s => (∀ x, Rg hs x → s ≤ lin2 p q x) ∧ ∃ x, Rg hs x ∧ lin2 p q x = s := by
  have h := sup_is (p := -p) (q := -q) hd hx
  have ln : ∀ x, lin2 (-p) (-q) x = -lin2 p q x := fun x => by
    unfold lin2
    grind
  unfold infF
  cases e : supF (-p) (-q) hs with
  | none =>
    rw [e] at h
    intro m
    obtain ⟨x, hx, e⟩ := h (-m)
    rw [ln] at e
    exact ⟨x, hx, by grind⟩
  | some s =>
    rw [e] at h
    obtain ⟨h1, x, hx, e⟩ := h
    rw [ln] at e
    refine ⟨fun y hy => ?_, x, hx, by grind⟩
    have := h1 y hy
    rw [ln] at this
    grind
theorem mid {p q : Rat} {hs : List Hp3} (hd : ∀ g ∈ hs, Dir g) {x0 : Ray} (hx : Rg hs x0) {m : Rat} (h1 : ∀ l, infF p q hs = some l → l ≤ m) (h2 : ∀ s, supF p q hs = some s → m ≤ s) : ∃ x, Rg hs x ∧ lin2 p q x = m := by
  by_cases c : p = 0 ∧ q = 0
  · obtain ⟨rfl, rfl⟩ := c
    have a := h2 0 (by unfold supF; rw [if_pos ⟨rfl, rfl⟩])
    have b := h1 0 (by unfold infF supF; rw [if_pos ⟨by grind, by grind⟩]; rfl)
    exact ⟨x0, hx, by rw [lin0]; grind⟩
  · have hi := inf_is (p := p) (q := q) hd hx
    have lo : ∃ y, Rg hs y ∧ lin2 p q y ≤ m := by
      cases e : infF p q hs with
      | none =>
        rw [e] at hi
        exact hi m
      | some l =>
        rw [e] at hi
        obtain ⟨_, y, hy, ey⟩ := hi
        exact ⟨y, hy, by rw [ey]; exact h1 l e⟩
    obtain ⟨y, hy, ey⟩ := lo
    refine reach c hd hy ey fun b hb => ?_
    unfold supF at h2
    rw [if_neg c] at h2
    cases e : least (bounds p q hs) with
    | none => exact nomatch least_none e _ hb
    | some s =>
      have a := h2 s e
      have b' := (least_some e).2 b hb
      grind
theorem inf_le_sup {p q : Rat} {hs : List Hp3} (hd : ∀ g ∈ hs, Dir g) {x0 : Ray} (hx : Rg hs x0) {l s : Rat} (h1 : infF p q hs = some l) (h2 : supF p q hs = some s) : l ≤ s := by
  have a := inf_is (p := p) (q := q) hd hx
  have b := sup_is (p := p) (q := q) hd hx
  rw [h1] at a
  rw [h2] at b
  exact Rat.le_trans (a.1 x0 hx) (b.1 x0 hx)
theorem nearest_mid {lo hi : Option Rat} (h : ∀ l s, lo = some l → hi = some s → l ≤ s) : (∀ l, lo = some l → l ≤ nearest lo hi) ∧ ∀ s, hi = some s → nearest lo hi ≤ s := by
  unfold nearest
  cases lo with
  | none =>
    cases hi with
    | none => exact ⟨(fun l e => nomatch e), (fun l e => nomatch e)⟩
    | some s =>
      refine ⟨(fun l e => nomatch e), fun s' e => ?_⟩
      cases e
      dsimp only
      split <;> grind
  | some l =>
    cases hi with
    | none =>
      refine ⟨fun l' e => ?_, (fun l e => nomatch e)⟩
      cases e
      dsimp only
      split <;> grind
    | some s =>
      have := h l s rfl rfl
      refine ⟨fun l' e => ?_, fun s' e => ?_⟩
      · cases e
        dsimp only
        split
        · grind
        · split <;> grind
      · cases e
        dsimp only
        split
        · grind
        · split <;> grind
theorem nearest_or (lo hi : Option Rat) : lo = some (nearest lo hi) ∨ hi = some (nearest lo hi) ∨ nearest lo hi = 0 := by
  unfold nearest
  cases lo <;> cases hi <;> dsimp only <;> (repeat' split) <;> simp
theorem mkH_dir {p q r : Rat} (h : ¬ (p = 0 ∧ q = 0)) : Dir (mkH p q r) := fun ⟨a, b⟩ => by
  obtain ⟨t, ht, h1, h2, h3⟩ := mkH_spec (r := r) h
  rw [a] at h1
  rw [b] at h2
  have z0 : ((0 : Int) : Rat) = 0 := rfl
  rw [z0] at h1 h2
  refine h ⟨?_, ?_⟩
  · exact (Rat.mul_eq_zero.mp h1.symm).resolve_left (by grind)
  · exact (Rat.mul_eq_zero.mp h2.symm).resolve_left (by grind)
def atH (hs : List Hp3) (h : Rat) : List Hp3 := hs ++ [mkH 1 0 h, mkH (-1) 0 (-h)]
theorem n10 : ¬ ((1 : Rat) = 0 ∧ (0 : Rat) = 0) := fun h => absurd h.1 (by decide)
theorem nm10 : ¬ ((-1 : Rat) = 0 ∧ (0 : Rat) = 0) := fun h => absurd h.1 (by decide)
theorem mkH_rg {p q r : Rat} (h : ¬ (p = 0 ∧ q = 0)) (x : Ray) : valH (mkH p q r) x ≤ ((mkH p q r).r : Rat) ↔ p * x.1 + q * x.2 ≤ r := by
  have := mkH_has (r := r) h x
  unfold hasH at this
  exact decide_eq_decide.mp this
theorem atH_rg {hs : List Hp3} {h : Rat} {x : Ray} : Rg (atH hs h) x ↔ Rg hs x ∧ x.1 = h := by
  have a := mkH_rg (r := h) n10 x
  have b := mkH_rg (r := -h) nm10 x
  constructor
  · intro hx
    refine ⟨fun g hg => hx g (List.mem_append_left _ hg), ?_⟩
    have a' := a.mp (hx _ (List.mem_append_right _ List.mem_cons_self))
    have b' := b.mp (hx _ (List.mem_append_right _ (List.mem_cons_of_mem _ List.mem_cons_self)))
    grind
  · rintro ⟨hx, e⟩ g hg
    rcases List.mem_append.mp hg with h' | h'
    · exact hx g h'
    · rcases List.mem_cons.mp h' with e' | h'
      · rw [e']
        exact a.mpr (by grind)
      · rw [List.mem_singleton.mp h']
        exact b.mpr (by grind)
theorem atH_dir {hs : List Hp3} {h : Rat} (hd : ∀ g ∈ hs, Dir g) : ∀ g ∈ atH hs h, Dir g := fun g hg => by
  rcases List.mem_append.mp hg with h' | h'
  · exact hd g h'
  · rcases List.mem_cons.mp h' with e' | h'
    · rw [e']
      exact mkH_dir n10
    · rw [List.mem_singleton.mp h']
      exact mkH_dir nm10
end PG

set_option maxRecDepth 100000
set_option maxHeartbeats 4000000

namespace PG
open PySem PySem.Spec PyProof.Rows L2 RT
theorem fov_rng {p q : Rat} (h0 : ¬ (p = 0 ∧ q = 0)) {hs : List Hp3} (hd : ∀ g ∈ hs, Dir g) : boundsF p q hs = if emptyB hs = true then none else some (infF p q hs, supF p q hs) := by
  refine IsRng.unique (boundsF_is h0 hs) ?_
  by_cases c : emptyB hs = true
  · rw [if_pos c]
    rintro x ⟨z, hz, _⟩
    exact (emptyB_iff hd).mp c ⟨z, hz⟩
  · rw [if_neg c]
    obtain ⟨x0, hx⟩ : ∃ x, Rg hs x := Classical.byContradiction fun n => c ((emptyB_iff hd).mpr n)
    refine ⟨fun x => ⟨?_, ?_⟩, lin2 p q x0, x0, hx, rfl⟩
    · rintro ⟨z, hz, e⟩
      have e' : lin2 p q z = x := e
      refine ⟨fun l el => ?_, fun u eu => ?_⟩
      · have := inf_is (p := p) (q := q) hd hx
        have el' : infF p q hs = some l := el
        rw [el'] at this
        rw [← e']
        exact this.1 z hz
      · have := sup_is (p := p) (q := q) hd hx
        have eu' : supF p q hs = some u := eu
        rw [eu'] at this
        rw [← e']
        exact this.1 z hz
    · rintro ⟨h1, h2⟩
      obtain ⟨z, hz, e⟩ := mid hd hx (m := x) h1 h2
      exact ⟨z, hz, e⟩

end PG

set_option maxRecDepth 100000
set_option maxHeartbeats 4000000

namespace PG
open PySem PySem.Spec PyProof.Rows L2 RT
section
variable {st : List Cell} {Q : Vl → List Cell → Prop}
end
end PG

set_option maxRecDepth 100000
set_option maxHeartbeats 4000000
namespace PG
open PySem PySem.Spec PyProof.Rows L2 RT
section
variable {st : List Cell} {Q : Vl → List Cell → Prop}
end
end PG

set_option maxRecDepth 100000
set_option maxHeartbeats 4000000

namespace PG
open PySem PySem.Spec PyProof.Rows L2 RT
theorem filt_map {α : Type} {f h : α → Dt} {p : α → Bool} {sl slw : List (Option Vl)} {i : Nat} {tt : DT} {te : DE} {all : List Dt} {st : List Cell} {K : List Dt → M → Prop} :
    ∀ (xs acc : List α), (∀ a ∈ xs, ∀ (P : Bool → M → Prop), P (p a) ⟨slw.set i (some (.d (f a))), st⟩ → tt ⟨slw.set i (some (.d (f a))), st⟩ P) → (∀ a ∈ xs, ∀ (C : Vl → M → Prop), C (.d (h a)) ⟨slw.set i (some (.d (f a))), st⟩ → te ⟨slw.set i (some (.d (f a))), st⟩ C) →
      acc.length + xs.length ≤ 100000 → K ((acc ++ xs.filter p).map h) ⟨sl, st⟩ → dLcGo sl slw (.nm i) tt te all none K (xs.map f) (acc.map h) st
  | [], acc, _, _, _, hK => ⟨trivial, by rw [List.filter_nil, List.append_nil] at hK; exact hK⟩
  | x :: xs, acc, ht, he, hl, hK => by
    rw [List.length_cons] at hl
    refine ⟨trivial, ht x List.mem_cons_self _ ?_⟩
    have ht' := fun a (ha : a ∈ xs) => ht a (List.mem_cons_of_mem _ ha)
    have he' := fun a (ha : a ∈ xs) => he a (List.mem_cons_of_mem _ ha)
    cases hp : p x with
    | true =>
      rw [if_pos rfl]
      refine he x List.mem_cons_self _ ⟨by rw [List.length_map]; exact small_lt (by omega), ?_⟩
      have := filt_map (all := all) (K := K) xs (acc ++ [x]) ht' he' (by rw [List.length_append, List.length_singleton]; omega) (by rw [List.append_assoc]; rw [List.filter_cons, if_pos hp] at hK; exact hK)
      rw [List.map_append] at this
      exact this
    | false =>
      exact filt_map (K := K) xs acc ht' he' (by omega) (by rw [List.filter_cons, if_neg (by rw [hp]; decide)] at hK; exact hK)
section
variable {st : List Cell} {Q : Vl → List Cell → Prop}
end
end PG

set_option maxRecDepth 100000
set_option maxHeartbeats 4000000
namespace PG
open PySem PySem.Spec PyProof.Rows L2 RT
section
variable {st : List Cell} {Q : Vl → List Cell → Prop}
end
end PG

set_option maxRecDepth 100000
set_option maxHeartbeats 4000000
namespace PG
open PySem PySem.Spec PyProof.Rows L2 RT
structure Lg (k L : Nat) (d : Dt) : Prop where
  shw : (toPy d).showable = true
  dep : (toPy d).depth ≤ k
  len : (toPy d).shown.length ≤ L
theorem Lg.le {k L k' L' : Nat} {d : Dt} (h : Lg k L d) (h1 : k ≤ k') (h2 : L ≤ L') : Lg k' L' d := ⟨h.shw, Nat.le_trans h.dep h1, Nat.le_trans h.len h2⟩
theorem Lg.shows {k L : Nat} {d : Dt} (h : Lg k L d) (hk : k ≤ 60) (hL : L ≤ 16000000) : shows d := by
  refine ⟨h.shw, Nat.le_trans h.dep hk, ?_⟩
  have := h.len
  show (toPy d).shown.length ≤ 16777216
  omega
theorem rowsR_some {rows : List (Rat × Rat)} {o : Option Rat × Option Rat} (h : rowsR rows = some o) : o = (greatest ((los rows).map some), least ((ups rows).map some)) := by
  unfold rowsR at h
  split at h
  · cases h
  · unfold rngOf at h
    split at h
    · cases h
    · exact (Option.some.inj h).symm
section
variable {ds : List Int} {i k : Nat} {st : List Cell} {Q : Vl → List Cell → Prop}
end
section
variable {st : List Cell} {Q : Vl → List Cell → Prop}
end
end PG

set_option maxRecDepth 100000
set_option maxHeartbeats 4000000

namespace PG
open PySem PySem.Spec PyProof.Rows L2 RT
section
variable {st : List Cell} {Q : Vl → List Cell → Prop}
end
end PG

set_option maxRecDepth 100000
set_option maxHeartbeats 4000000
namespace PG
open PySem PySem.Spec PyProof.Rows L2 RT
theorem zb1 : zb 1 = 2 := by decide +kernel
theorem not_empty {hs : List Hp3} (hd : ∀ g ∈ hs, Dir g) (he : emptyB hs = false) : ∃ x, Rg hs x := by
  refine Classical.byContradiction fun hno => ?_
  have := (emptyB_iff hd).mpr hno
  rw [he] at this
  cases this
theorem empty_of {hs : List Hp3} (hd : ∀ g ∈ hs, Dir g) {x : Ray} (hx : Rg hs x) : emptyB hs = false := by
  cases e : emptyB hs with
  | false => rfl
  | true => exact ((emptyB_iff hd).mp e ⟨x, hx⟩).elim
def midH (hs : List Hp3) : Rat := nearest (infF 1 0 hs) (supF 1 0 hs)
def midS (hs : List Hp3) : Rat := nearest (infF 0 1 (atH hs (midH hs))) (supF 0 1 (atH hs (midH hs)))
def sampleF (hs : List Hp3) : Option Ray := if emptyB hs = true then none else some (midH hs, midS hs)
theorem lin10 (x : Ray) : lin2 1 0 x = x.1 := by
  unfold lin2
  grind
theorem lin01 (x : Ray) : lin2 0 1 x = x.2 := by
  unfold lin2
  grind
theorem midH_in {hs : List Hp3} (hd : ∀ g ∈ hs, Dir g) {x : Ray} (hx : Rg hs x) : ∃ y, Rg hs (midH hs, y) := by
  obtain ⟨h1, h2⟩ := nearest_mid (lo := infF 1 0 hs) (hi := supF 1 0 hs) fun l s => inf_le_sup hd hx
  obtain ⟨y, hy, e⟩ := mid hd hx h1 h2
  rw [lin10] at e
  refine ⟨y.2, ?_⟩
  unfold midH
  rw [← e]
  exact hy
theorem midS_in {hs : List Hp3} (hd : ∀ g ∈ hs, Dir g) {x : Ray} (hx : Rg hs x) : Rg hs (midH hs, midS hs) := by
  obtain ⟨y, hy⟩ := midH_in hd hx
  have hy' : Rg (atH hs (midH hs)) (midH hs, y) := atH_rg.mpr ⟨hy, rfl⟩
  obtain ⟨h1, h2⟩ := nearest_mid (lo := infF 0 1 (atH hs (midH hs))) (hi := supF 0 1 (atH hs (midH hs))) fun l s => inf_le_sup (atH_dir hd) hy'
  obtain ⟨z, hz, e⟩ := mid (atH_dir hd) hy' h1 h2
  rw [lin01] at e
  obtain ⟨hz1, hz2⟩ := atH_rg.mp hz
  have : z = (midH hs, midS hs) := Prod.ext hz2 e
  rw [← this]
  exact hz1
section
variable {st : List Cell} {Q : Vl → List Cell → Prop} {hs : List Hp3} {n : Nat} {g : Hp3} {x : Ray}
theorem inf_z {p q : Rat} (hp : zb p ≤ n) (hq : zb q ≤ n) (hg : ∀ g ∈ hs, HZ n g) : ∀ b, infF p q hs = some b → zb b ≤ 20 * n + 2 := fun b e => by
  unfold infF at e
  obtain ⟨s, h1, h2⟩ := Option.map_eq_some_iff.mp e
  rw [← h2, zb_neg]
  exact sup_z (by rw [zb_neg]; exact hp) (by rw [zb_neg]; exact hq) hg s h1
theorem near_z {lo hi : Option Rat} {m : Nat} (h1 : ∀ b, lo = some b → zb b ≤ m) (h2 : ∀ b, hi = some b → zb b ≤ m) (hm : 2 ≤ m) : zb (nearest lo hi) ≤ m := by
  rcases nearest_or lo hi with e | e | e
  · exact h1 _ e
  · exact h2 _ e
  · rw [e, zb0]
    exact hm
theorem sample_ok (hd : ∀ g ∈ hs, Dir g) (hg : ∀ g ∈ hs, HZ n g) (hn : n ≤ 20000) (h2 : 2 ≤ n) (hl : hs.length ≤ 40) (h : Q (.d (oray (sampleF hs))) st) : sp_sample_ray [.d (.lst (hs.map hpD))] st Q := by
  unfold sp_sample_ray
  refine ⟨rfl, ?_⟩
  let S : Option Vl → Option Vl → Option Vl → Option Vl → M := fun z1 z2 z3 z4 => ⟨[some (.d (.lst (hs.map hpD))), z1, z2, z3, z4], st⟩
  have z1' : zb 1 ≤ n := by rw [zb1]; exact h2
  have z0' : zb 0 ≤ n := by rw [zb0]; exact h2
  refine seq_to (S (some (.d (orng (emptyB hs) (infF 1 0 hs) (supF 1 0 hs)))) none none none) (fun K hK => range_ok (p := 1) (q := 0) hd z1' z0' hg (by omega) (by omega) hK) ?_
  unfold sampleF at h
  cases he : emptyB hs with
  | true =>
    rw [he, if_pos rfl] at h
    refine ifs_t (S (some (.d .non)) none none none) (fun K hK => hK) ?_
    exact tk h
  | false =>
    rw [he, if_neg (by decide)] at h
    obtain ⟨x0, hx0⟩ := not_empty hd he
    obtain ⟨y0, hy0⟩ := midH_in hd hx0
    have hzl := inf_z (p := 1) (q := 0) z1' z0' hg
    have hzs := sup_z (p := 1) (q := 0) z1' z0' hg
    have hzh : zb (midH hs) ≤ 20 * n + 2 := near_z hzl hzs (by omega)
    refine guard_st (S (some (.d (.tup [ofr (infF 1 0 hs), ofr (supF 1 0 hs)]))) none none none) (fun K hK => hK) ?_
    refine seq_to (S (some (.d (.tup [ofr (infF 1 0 hs), ofr (supF 1 0 hs)]))) (some (.d (fr (midH hs)))) none none) (fun K hK => nearest_ok hK) ?_
    have hemp := empty_of (atH_dir hd) (atH_rg.mpr ⟨hy0, rfl⟩)
    have hzz : ∀ g ∈ atH hs (midH hs), HZ (20 * n + 20) g := fun g hgm => by
      rcases List.mem_append.mp hgm with h' | h'
      · have := hg g h'
        unfold HZ at *
        omega
      · rcases List.mem_cons.mp h' with e' | h'
        · rw [e']
          exact mkH_z (by rw [zb1, zb0]; omega)
        · rw [List.mem_singleton.mp h']
          exact mkH_z (by rw [zb_neg, zb_neg, zb1, zb0]; omega)
    have hdir := atH_dir (h := midH hs) hd
    have esr : nearest (infF 0 1 (atH hs (midH hs))) (supF 0 1 (atH hs (midH hs))) = midS hs := rfl
    generalize midH hs = m at *
    refine seq_to (S (some (.d (.tup [ofr (infF 1 0 hs), ofr (supF 1 0 hs)]))) (some (.d (fr m))) (some (.d (.lst [hpD (mkH 1 0 m), hpD (mkH (-1) 0 (-m))]))) none) (fun K hK => ?_) ?_
    · refine mkplane_ok (p := 1) (q := 0) (n := 20 * n + 20) n10 (by rw [zb1]; omega) (by rw [zb0]; omega) (by omega) (by omega) ?_
      refine negative_ok (x := 1) ?_
      refine negative_ok ?_
      refine mkplane_ok (p := -1) (q := 0) (n := 20 * n + 20) nm10 (by rw [zb_neg, zb1]; omega) (by rw [zb0]; omega) (by rw [zb_neg]; omega) (by omega) ?_
      exact ⟨slt rfl, hK⟩
    refine seq_to (S (some (.d (.tup [ofr (infF 1 0 hs), ofr (supF 1 0 hs)]))) (some (.d (fr m))) (some (.d (.lst [hpD (mkH 1 0 m), hpD (mkH (-1) 0 (-m))]))) (some (.d (.tup [ofr (infF 0 1 (atH hs m)), ofr (supF 0 1 (atH hs m))])))) (fun K hK => ?_) ?_
    · refine ⟨?_, ?_⟩
      · rw [List.length_map]
        show hs.length + 2 ≤ 16777216
        omega
      · have e : hs.map hpD ++ [hpD (mkH 1 0 m), hpD (mkH (-1) 0 (-m))] = (atH hs m).map hpD := by
          unfold atH
          rw [List.map_append]
          rfl
        show sp_direction_range [.d (.lst (hs.map hpD ++ [hpD (mkH 1 0 m), hpD (mkH (-1) 0 (-m))])), .d (fr 0), .d (fr 1)] _ _
        rw [e]
        refine range_ok (p := 0) (q := 1) (n := 20 * n + 20) hdir (by rw [zb0]; omega) (by rw [zb1]; omega) hzz (by omega) ?_ ?_
        · unfold atH
          rw [List.length_append]
          show hs.length + 2 ≤ 45
          omega
        · rw [hemp]
          exact hK
    refine nearest_ok ?_
    rw [esr]
    exact ⟨lineN rfl, tk h⟩
end
end PG

set_option maxRecDepth 100000
set_option maxHeartbeats 4000000
namespace PG
open PySem PySem.Spec PyProof.Rows L2 RT

def lineF (hs : List Hp3) : Option Hp3 := hs.find? fun g => decide (infF g.p g.q hs = some (g.r : Rat))
theorem line_some {hs : List Hp3} (hd : ∀ g ∈ hs, Dir g) {x0 : Ray} (hx : Rg hs x0) {g : Hp3} (h : lineF hs = some g) : g ∈ hs ∧ ∀ x, Rg hs x → valH g x = g.r := by
  have hm := List.mem_of_find?_eq_some h
  have hp : infF g.p g.q hs = some (g.r : Rat) := by
    have := List.find?_some h
    simpa using this
  refine ⟨hm, fun x hx' => ?_⟩
  have hi := inf_is (p := g.p) (q := g.q) hd hx
  rw [hp] at hi
  have a : (g.r : Rat) ≤ valH g x := hi.1 x hx'
  have b := hx' g hm
  grind

end PG

set_option maxRecDepth 100000
set_option maxHeartbeats 4000000
namespace PG
open PySem PySem.Spec PyProof.Rows L2 RT

def kindR : Option Rat → Option Rat → Str
  | none, none => "line"
  | none, some _ => "halfLine"
  | some _, none => "halfLine"
  | some l, some s => if l = s then "point" else "segment"
def kindF (hs : List Hp3) : Str := if emptyB hs = true then "empty" else match lineF hs with
  | none => "area"
  | some g => kindR (infF (-(g.q : Rat)) g.p hs) (supF (-(g.q : Rat)) g.p hs)
end PG

set_option maxRecDepth 100000
set_option maxHeartbeats 4000000
namespace PG
open PySem PySem.Spec PyProof.Rows L2 RT
theorem eqD_ofr {o : Option Rat} {q : Rat} : eqD (ofr o) (fr q) = decide (o = some q) := by
  cases o with
  | none => rfl
  | some x =>
    show eqD (fr x) (fr q) = _
    rw [eqD_fr]
    exact decide_eq_decide.mpr (by simp)
def ohpD : Option Hp3 → Dt
  | none => .non
  | some g => hpD g
section
variable {ds : List Int} {i k : Nat} {st : List Cell} {Q : Vl → List Cell → Prop} {hs : List Hp3}
theorem line_ok {n : Nat} (hd : ∀ g ∈ hs, Dir g) (hg : ∀ g ∈ hs, HZ n g) (hn : n ≤ 1000000) (hl : hs.length ≤ 300) (h : Q (.d (ohpD (lineF hs))) st) : sp_line_of [.d (.lst (hs.map hpD))] st Q := by
  unfold sp_line_of
  refine ⟨rfl, ?_⟩
  unfold lineF at h
  let S : Option Vl → M := fun z => ⟨[some (.d (.lst (hs.map hpD))), z], st⟩
  refine seq_mid (fun m => (hs.find? fun g => decide (infF g.p g.q hs = some (g.r : Rat))) = none ∧ ∃ z, m = S z) (fun K hK => ?_) ?_
  · refine each_inv (lk := none) hpD (fun r m => (∀ g ∈ r, g ∈ hs) ∧ (r.find? fun g => decide (infF g.p g.q hs = some (g.r : Rat))) = (hs.find? fun g => decide (infF g.p g.q hs = some (g.r : Rat))) ∧ ∃ z, m = S z) (fun _ _ _ => trivial) ?_ ?_ hs _ ⟨fun _ h => h, rfl, none, rfl⟩
    · rintro g r _ K2 hK2 ⟨hr, he, z, rfl⟩
      have hgm := hr g List.mem_cons_self
      obtain ⟨z1, z2, z3⟩ := (hg g hgm).zb
      refine frac1_ok ?_
      refine frac1_ok ?_
      refine inf_ok hd z1 z2 hg hn hl ?_
      refine frac1_ok ⟨sh_ok sh_ofr, sh_fr', ?_⟩
      show if eqD (ofr (infF g.p g.q hs)) (fr (g.r : Rat)) = true then _ else _
      rw [eqD_ofr]
      refine ifd (fun c => ?_) fun c => ?_
      · rw [List.find?_cons_of_pos (by simpa using c)] at he
        rw [← he] at h
        exact tk h
      · rw [List.find?_cons_of_neg (by simpa using c)] at he
        exact hK2 _ ⟨fun y hy => hr y (List.mem_cons_of_mem _ hy), he, some (.d (hpD g)), rfl⟩
    · rintro _ ⟨_, he, z, rfl⟩
      exact hK _ ⟨he.symm, z, rfl⟩
  rintro _ ⟨he, z, rfl⟩
  rw [he] at h
  exact tk h
theorem line_mem {g : Hp3} (h : lineF hs = some g) : g ∈ hs := List.mem_of_find?_eq_some h
theorem kind_ok {n : Nat} (hd : ∀ g ∈ hs, Dir g) (hg : ∀ g ∈ hs, HZ n g) (hn : n ≤ 1000000) (hl : hs.length ≤ 45) (h : Q (.d (.str (kindF hs))) st) : sp_region_kind [.d (.lst (hs.map hpD))] st Q := by
  unfold sp_region_kind
  refine ⟨rfl, ?_⟩
  unfold kindF at h
  let S : Option Vl → Option Vl → Option Vl → M := fun z1 z2 z3 => ⟨[some (.d (.lst (hs.map hpD))), z1, z2, z3], st⟩
  cases he : emptyB hs with
  | true =>
    rw [he, if_pos rfl] at h
    refine ifs_t (S none none none) (fun K hK => empty_ok hg (by omega) hl (by rw [he]; exact hK)) ?_
    exact tk h
  | false =>
    rw [he, if_neg (by decide)] at h
    refine guard_st (S none none none) (fun K hK => empty_ok hg (by omega) hl (by rw [he]; exact hK)) ?_
    refine seq_to (S (some (.d (ohpD (lineF hs)))) none none) (fun K hK => line_ok hd hg hn (by omega) hK) ?_
    cases hl' : lineF hs with
    | none =>
      rw [hl'] at h
      refine ifs_t (S (some (.d .non)) none none) (fun K hK => hK) ?_
      exact tk h
    | some g =>
      rw [hl'] at h
      have hgm := line_mem hl'
      obtain ⟨z1, z2, z3⟩ := (hg g hgm).zb
      have h' : Q (.d (.str (kindR (infF (-(g.q : Rat)) g.p hs) (supF (-(g.q : Rat)) g.p hs)))) st := h
      refine guard_st (S (some (.d (hpD g))) none none) (fun K hK => hK) ?_
      refine seq_to (S (some (.d (hpD g))) (some (.d (ofr (infF (-(g.q : Rat)) g.p hs)))) (some (.d (ofr (supF (-(g.q : Rat)) g.p hs))))) (fun K hK => ?_) ?_
      · refine frac1_ok ?_
        refine frac1_ok ?_
        rw [Rat.intCast_neg]
        refine range_ok hd (by rw [zb_neg]; exact z2) z1 hg hn hl ?_
        rw [he]
        exact ⟨rfl, hK⟩
      cases hi : infF (-(g.q : Rat)) g.p hs with
      | none =>
        rw [hi] at h'
        cases hsu : supF (-(g.q : Rat)) g.p hs with
        | none =>
          rw [hsu] at h'
          refine ifs_t (S (some (.d (hpD g))) (some (.d .non)) (some (.d .non))) (fun K hK => hK) ?_
          exact tk h'
        | some s =>
          rw [hsu] at h'
          refine guard_st (S (some (.d (hpD g))) (some (.d .non)) (some (.d (fr s)))) (fun K hK => hK) ?_
          refine ifs_t (S (some (.d (hpD g))) (some (.d .non)) (some (.d (fr s)))) (fun K hK => hK) ?_
          exact tk h'
      | some l =>
        rw [hi] at h'
        cases hsu : supF (-(g.q : Rat)) g.p hs with
        | none =>
          rw [hsu] at h'
          refine guard_st (S (some (.d (hpD g))) (some (.d (fr l))) (some (.d .non))) (fun K hK => hK) ?_
          refine ifs_t (S (some (.d (hpD g))) (some (.d (fr l))) (some (.d .non))) (fun K hK => hK) ?_
          exact tk h'
        | some s =>
          rw [hsu] at h'
          refine guard_st (S (some (.d (hpD g))) (some (.d (fr l))) (some (.d (fr s)))) (fun K hK => hK) ?_
          refine guard_st (S (some (.d (hpD g))) (some (.d (fr l))) (some (.d (fr s)))) (fun K hK => hK) ?_
          have h2 : Q (.d (.str (if l = s then ("point" : Str) else "segment"))) st := h'
          refine ⟨sh_fr', sh_fr' (q := s), ?_⟩
          show if eqD (fr l) (fr s) = true then _ else _
          rw [eqD_fr]
          refine ifd (fun c => ?_) fun c => ?_
          · rw [if_pos c] at h2
            exact tk h2
          · rw [if_neg c] at h2
            exact tk h2
end
end PG

set_option maxRecDepth 100000
set_option maxHeartbeats 4000000

namespace PG
open PySem PySem.Spec PyProof.Rows L2 RT
def impB (hs : List Hp3) (g : Hp3) : Bool := emptyB hs || (match supF g.p g.q hs with
  | none => false
  | some b => decide (b ≤ (g.r : Rat)))
def neededF (hs : List Hp3) : List Hp3 := (inOrd hs).filter fun g => !impB ((inOrd hs).filter fun k => !decide (k = g)) g
def gcd2 (g : Hp3) : Int := (Int.gcd g.p g.q : Int)
def uA (g : Hp3) : Int := (-g.q).fdiv (gcd2 g)
def uB (g : Hp3) : Int := g.p.fdiv (gcd2 g)
def endP (hs : List Hp3) (a b : Int) : List Hp3 := match supF a b hs with
  | none => []
  | some e => [mkH a b e]
def lineR (hs : List Hp3) (c : Hp3) : List Hp3 := [c, oppH c] ++ endP hs (uA c * 1) (uB c * 1) ++ endP hs (uA c * -1) (uB c * -1)
def pointR (z : Ray) : List Hp3 := [mkH 1 0 z.1, mkH 0 1 z.2, mkH (-1) (-1) (-(z.1 + z.2))]
def carr (g : Hp3) : Hp3 := (inOrd [g, oppH g]).headD g
def emptyR : List Hp3 := [⟨1, 0, -1⟩, ⟨-1, 0, 0⟩]
def isPoint (hs : List Hp3) (g : Hp3) : Bool := match infF (-(g.q : Rat)) g.p hs, supF (-(g.q : Rat)) g.p hs with
  | some l, some s => decide (l = s)
  | _, _ => false
def canP (hs : List Hp3) : List Hp3 := if emptyB hs = true then inOrd emptyR else match lineF hs with
  | none => neededF hs
  | some g => if isPoint hs g = true then inOrd (pointR (midH hs, midS hs)) else inOrd (lineR hs (carr g))
theorem kindR_point {a b : Option Rat} : kindR a b = "point" ↔ ∃ l, a = some l ∧ b = some l := by
  have n1 : ¬ ("line" : Str) = "point" := by decide +kernel
  have n2 : ¬ ("halfLine" : Str) = "point" := by decide +kernel
  have n3 : ¬ ("segment" : Str) = "point" := by decide +kernel
  cases a with
  | none =>
    cases b with
    | none => exact ⟨fun h => absurd h n1, fun ⟨l, h, _⟩ => nomatch h⟩
    | some s => exact ⟨fun h => absurd h n2, fun ⟨l, h, _⟩ => nomatch h⟩
  | some l =>
    cases b with
    | none => exact ⟨fun h => absurd h n2, fun ⟨l, _, h⟩ => nomatch h⟩
    | some s =>
      show (if l = s then ("point" : Str) else "segment") = "point" ↔ _
      by_cases c : l = s
      · rw [if_pos c]
        exact ⟨fun _ => ⟨l, rfl, by rw [c]⟩, fun _ => rfl⟩
      · rw [if_neg c]
        exact ⟨fun h => absurd h n3, fun ⟨m, h1, h2⟩ => absurd ((Option.some.inj h1).trans (Option.some.inj h2).symm) c⟩
theorem kindR_ne {a b : Option Rat} : decide (kindR a b = "empty") = false ∧ decide (kindR a b = "area") = false ∧ shD (.str (kindR a b)) := by
  have t1 : decide (("line" : Str) = "empty") = false ∧ decide (("line" : Str) = "area") = false ∧ shD (.str ("line" : Str)) := ⟨by decide +kernel, by decide +kernel, shS (by decide +kernel)⟩
  have t2 : decide (("halfLine" : Str) = "empty") = false ∧ decide (("halfLine" : Str) = "area") = false ∧ shD (.str ("halfLine" : Str)) := ⟨by decide +kernel, by decide +kernel, shS (by decide +kernel)⟩
  have t3 : decide (("segment" : Str) = "empty") = false ∧ decide (("segment" : Str) = "area") = false ∧ shD (.str ("segment" : Str)) := ⟨by decide +kernel, by decide +kernel, shS (by decide +kernel)⟩
  have t4 : decide (("point" : Str) = "empty") = false ∧ decide (("point" : Str) = "area") = false ∧ shD (.str ("point" : Str)) := ⟨by decide +kernel, by decide +kernel, shS (by decide +kernel)⟩
  cases a with
  | none =>
    cases b with
    | none => exact t1
    | some s => exact t2
  | some l =>
    cases b with
    | none => exact t2
    | some s =>
      show decide ((if l = s then ("point" : Str) else "segment") = "empty") = false ∧ decide ((if l = s then ("point" : Str) else "segment") = "area") = false ∧ shD (.str (if l = s then ("point" : Str) else "segment"))
      split
      · exact t4
      · exact t3
theorem isPoint_eq {hs : List Hp3} {g : Hp3} : decide (kindR (infF (-(g.q : Rat)) g.p hs) (supF (-(g.q : Rat)) g.p hs) = "point") = isPoint hs g := by
  unfold isPoint
  cases infF (-(g.q : Rat)) g.p hs with
  | none => exact decide_eq_false fun h => by obtain ⟨l, h, _⟩ := kindR_point.mp h; cases h
  | some l =>
    cases supF (-(g.q : Rat)) g.p hs with
    | none => exact decide_eq_false fun h => by obtain ⟨l, _, h⟩ := kindR_point.mp h; cases h
    | some s =>
      refine decide_eq_decide.mpr ⟨fun h => ?_, fun h => kindR_point.mpr ⟨l, rfl, by rw [h]⟩⟩
      obtain ⟨m, h1, h2⟩ := kindR_point.mp h
      exact (Option.some.inj h1).trans (Option.some.inj h2).symm
section
variable {st : List Cell} {Q : Vl → List Cell → Prop}
theorem sup_zz {hs : List Hp3} {p q : Rat} {n : Nat} (hp : zb p ≤ n) (hq : zb q ≤ n) (hg : ∀ g ∈ hs, HZ n g) : ∀ b, supF p q hs = some b → zb b ≤ 20 * n + 2 := fun b e => by
  have := inf_z (p := -p) (q := -q) (n := n) (hs := hs) (by rw [zb_neg]; exact hp) (by rw [zb_neg]; exact hq) hg (-b) (by
    unfold infF
    rw [Rat.neg_neg, Rat.neg_neg, e]
    rfl)
  rw [zb_neg] at this
  exact this
theorem implied_ok {hs : List Hp3} {g : Hp3} {n : Nat} (hd : ∀ g ∈ hs, Dir g) (hz : ∀ g ∈ hs, HZ n g) (hg : HZ n g) (hn : n ≤ 10000) (hl : hs.length ≤ 45) (h : Q (.d (.bl (impB hs g))) st) : sp_is_implied [.d (.lst (hs.map hpD)), .d (hpD g)] st Q := by
  obtain ⟨y1, y2, y3⟩ := hg.zb
  unfold sp_is_implied
  refine ⟨rfl, ?_⟩
  let S : Option Vl → M := fun z => ⟨[some (.d (.lst (hs.map hpD))), some (.d (hpD g)), z], st⟩
  unfold impB at h
  by_cases c : emptyB hs = true
  · rw [c, Bool.true_or] at h
    exact PG.ifs_t' (S none) (fun K hK => empty_ok hz (by omega) hl (by rw [c]; exact hK)) (tk h)
  have c' : emptyB hs = false := by simpa using c
  rw [c', Bool.false_or] at h
  refine guard_st (S none) (fun K hK => empty_ok hz (by omega) hl (by rw [c']; exact hK)) ?_
  refine seq_to (S (some (.d (ofr (supF g.p g.q hs))))) (fun K hK => ?_) ?_
  · refine frac1_ok ?_
    refine frac1_ok ?_
    exact sup_ok (n := n) hd y1 y2 hz (by omega) (by omega) hK
  have sz := sup_zz (n := n) y1 y2 hz
  cases hs' : supF g.p g.q hs with
  | none =>
    rw [hs'] at h
    exact tk h
  | some b =>
    rw [hs'] at h
    have bz := sz b hs'
    refine frac1_ok ?_
    refine compare_ok (x := b) (y := (g.r : Rat)) (zm (by omega)) ?_
    refine ⟨trivial, tk ?_⟩
    have e : decide (sgn (b - (g.r : Rat)) ≤ 0) = decide (b ≤ (g.r : Rat)) := by
      refine decide_eq_decide.mpr ?_
      unfold sgn
      grind
    show Q (.d (.bl (decide (sgn (b - (g.r : Rat)) ≤ 0)))) st
    rw [e]
    exact h
theorem needed_ok {hs : List Hp3} (hp : ∀ g ∈ hs, Pg g) (hl : hs.length ≤ 45) (h : Q (.d (.lst ((neededF hs).map hpD))) st) : sp_needed [.d (.lst (hs.map hpD))] st Q := by
  obtain ⟨i1, i2, i3⟩ := inOrd_spec hp
  unfold neededF at h
  obtain ⟨L, eL⟩ : ∃ L, inOrd hs = L := ⟨_, rfl⟩
  rw [eL] at i1 i2 i3 h
  have hpL : ∀ g ∈ L, Pg g := fun g hg => hp g ((i2 g).mp hg)
  unfold sp_needed
  refine ⟨rfl, ?_⟩
  let S : List Hp3 → Option Vl → Option Vl → M := fun acc z3 z4 => ⟨[some (.d (.lst (hs.map hpD))), some (.d (.lst (L.map hpD))), some (.c st.length), z3, z4, none], st ++ [Cell.lst (acc.map hpD)]⟩
  refine seq_to ⟨[some (.d (.lst (hs.map hpD))), some (.d (.lst (L.map hpD))), none, none, none, none], st⟩ (fun K hK => inorder_ok hp (by omega) (by rw [eL]; exact hK)) ?_
  refine seq_to (S [] none none) (fun K hK => ⟨lineN rfl, hK⟩) ?_
  let f : Hp3 → Bool := fun g => !impB (L.filter fun k => !decide (k = g)) g
  have h : Q (.d (.lst ((L.filter f).map hpD))) st := h
  refine seq_mid (fun m => ∃ z3 z4, m = S (L.filter f) z3 z4) (fun K hK => ?_) ?_
  · refine each_inv (lk := none) hpD (fun r m => ∃ done z3 z4, done ++ r = L ∧ m = S (done.filter f) z3 z4) (fun _ _ _ => trivial) ?_ ?_ L _ ⟨[], none, none, rfl, rfl⟩
    · rintro g r _ K2 hK2 ⟨done, z3, z4, he, rfl⟩
      have hm : g ∈ L := by rw [← he]; exact List.mem_append_right _ List.mem_cons_self
      have hdl : done.length + (r.length + 1) = L.length := by rw [← he, List.length_append, List.length_cons]
      have dl : (done.filter f).length ≤ 45 := Nat.le_trans (List.length_filter_le _ _) (by omega)
      obtain ⟨O, eO⟩ : ∃ O, (L.filter fun k => !decide (k = g)) = O := ⟨_, rfl⟩
      have hO : ∀ k ∈ O, k ∈ L := fun k hk => by
        rw [← eO] at hk
        exact (List.mem_filter.mp hk).1
      have hOl : O.length ≤ 45 := by
        rw [← eO]
        exact Nat.le_trans (List.length_filter_le _ _) (by omega)
      refine seq_to (S (done.filter f) (some (.d (hpD g))) (some (.d (.lst (O.map hpD))))) (fun K hK => ?_) ?_
      · refine filt_go (f := hpD) (p := fun k : Hp3 => !decide (k = g)) (by show 5 < 6; decide) ?_ L [] (by rw [List.length_nil]; omega) ?_
        · intro a P hP
          refine ⟨sh_ok sh_hp, sh_ok sh_hp, ?_⟩
          show P (!eqD (hpD a) (hpD g)) _
          rw [eqD_hp]
          exact hP
        · rw [List.nil_append, eO]
          exact hK
      have fin := hK2 (S ((done ++ [g]).filter f) (some (.d (hpD g))) (some (.d (.lst (O.map hpD))))) ⟨done ++ [g], _, _, by rw [List.append_assoc]; exact he, rfl⟩
      rw [List.filter_append] at fin
      have ef : f g = !impB O g := by rw [← eO]
      have cnd : ∀ K : Bool → M → Prop, K (!impB O g) (S (done.filter f) (some (.d (hpD g))) (some (.d (.lst (O.map hpD))))) → dNot (dTru (dCall PG.sp_is_implied [] (dCons (dVar 4) (dCons (dVar 3) dNil)))) (S (done.filter f) (some (.d (hpD g))) (some (.d (.lst (O.map hpD))))) K := fun K hK => by
        exact implied_ok (n := 30) (fun k hk => (hpL k (hO k hk)).1) (fun k hk => (hpL k (hO k hk)).z) (hpL g hm).z (by decide) hOl hK
      cases ci : impB O g with
      | true =>
        rw [ci] at cnd ef
        rw [List.filter_cons, if_neg (by rw [ef]; decide)] at fin
        rw [List.filter_nil, List.append_nil] at fin
        exact guard_end (fun m => m = S (done.filter f) (some (.d (hpD g))) (some (.d (.lst (O.map hpD))))) (fun K hK => cnd K (hK _ rfl)) (by rintro _ rfl; exact fin)
      | false =>
        rw [ci] at cnd ef
        rw [List.filter_cons, if_pos (by rw [ef]; rfl), List.filter_nil] at fin
        refine ifs_t (S (done.filter f) (some (.d (hpD g))) (some (.d (.lst (O.map hpD))))) cnd ?_
        refine append_st (k := st.length) (te := dVar 3) (xs := (done.filter f).map hpD) (hpD g) ?_ ?_ (fun C hC => hC) (small_lt (by rw [List.length_map]; omega)) ?_
        · rfl
        · exact getElem_last _ _
        · dsimp only
          show K2 ⟨_, (st ++ [_]).set st.length _⟩
          rw [set_last]
          dsimp only [S] at fin
          rw [List.map_append] at fin
          exact fin
    · rintro _ ⟨done, z3, z4, he, rfl⟩
      rw [List.append_nil] at he
      rw [he]
      exact hK _ ⟨_, _, rfl⟩
  rintro _ ⟨z3, z4, rfl⟩
  refine Eq.mp (if_neg (Nat.lt_irrefl _)).symm (onC_mk (getElem_last _ _) ?_)
  show Q _ ((st ++ [_]).take st.length)
  rw [List.take_left]
  exact h
theorem carr_mem {g : Hp3} (h : Pg g) : carr g = g ∨ carr g = oppH g := by
  have hp : ∀ k ∈ [g, oppH g], Pg k := fun k hk => by
    simp at hk
    rcases hk with rfl | rfl
    · exact h
    · exact oppH_pg h
  obtain ⟨_, i2, _⟩ := inOrd_spec hp
  unfold carr
  cases e : inOrd [g, oppH g] with
  | nil => exact .inl rfl
  | cons a r =>
    have : a ∈ inOrd [g, oppH g] := by rw [e]; exact List.mem_cons_self
    have := (i2 a).mp this
    simp at this
    exact this
theorem carrier_ok {hs : List Hp3} {g : Hp3} (hp : ∀ g ∈ hs, Pg g) (hl : hs.length ≤ 45) (hg : lineF hs = some g) (h : Q (.d (hpD (carr g))) st) : sp_carrier [.d (.lst (hs.map hpD))] st Q := by
  have pg := hp g (line_mem hg)
  have hp2 : ∀ k ∈ [g, oppH g], Pg k := fun k hk => by
    simp at hk
    rcases hk with rfl | rfl
    · exact pg
    · exact oppH_pg pg
  obtain ⟨_, i2, _⟩ := inOrd_spec hp2
  unfold sp_carrier
  refine ⟨rfl, ?_⟩
  refine seq_to ⟨[some (.d (.lst (hs.map hpD))), some (.d (hpD g))], st⟩ (fun K hK => line_ok (n := 30) (fun k hk => (hp k hk).1) (fun k hk => (hp k hk).z) (by decide) (by omega) (by rw [hg]; exact hK)) ?_
  refine opp_ok ?_
  refine ⟨slt rfl, ?_⟩
  refine inorder_ok (L0 := [g, oppH g]) hp2 (Nat.le_of_ble_eq_true rfl) ?_
  unfold carr at h
  cases e : inOrd [g, oppH g] with
  | nil =>
    have := (i2 g).mpr List.mem_cons_self
    rw [e] at this
    exact nomatch this
  | cons a r =>
    rw [e] at h
    have at0 : atI ((a :: r).map hpD) 0 = some (hpD a) := atI_map (f := hpD) (k := 0) rfl
    exact rIx_mk at0 (tk h)
theorem gcd2_pos {g : Hp3} (h : Dir g) : 0 < gcd2 g := by
  unfold gcd2
  have : Int.gcd g.p g.q ≠ 0 := fun e => h ⟨(Int.gcd_eq_zero_iff.mp e).1, (Int.gcd_eq_zero_iff.mp e).2⟩
  omega
theorem uAB_le {g : Hp3} (h : Dir g) : (uA g).natAbs ≤ g.q.natAbs ∧ (uB g).natAbs ≤ g.p.natAbs ∧ ¬ (uA g = 0 ∧ uB g = 0) ∧ uA g * gcd2 g = -g.q ∧ uB g * gcd2 g = g.p := by
  have g0 := gcd2_pos h
  have d1 : gcd2 g ∣ -g.q := by
    rw [Int.dvd_neg]
    exact Int.gcd_dvd_right ..
  have d2 : gcd2 g ∣ g.p := Int.gcd_dvd_left ..
  unfold uA uB
  rw [fdiv_pos g0, fdiv_pos g0]
  have a := div_ab d1 g0
  have b := div_ab d2 g0
  refine ⟨by have := a.1; omega, b.1, fun ⟨x, y⟩ => h ⟨b.2 y, by have := a.2 x; omega⟩, Int.ediv_mul_cancel d1, Int.ediv_mul_cancel d2⟩
theorem lineplanes_ok {hs : List Hp3} {g : Hp3} (hp : ∀ g ∈ hs, Pg g) (hl : hs.length ≤ 45) (hg : lineF hs = some g) (hE : ∀ k ∈ lineR hs (carr g), Pg k) (h : Q (.d (.lst ((inOrd (lineR hs (carr g))).map hpD))) st) : sp_line_planes [.d (.lst (hs.map hpD))] st Q := by
  have pg := hp g (line_mem hg)
  have pc : Pg (carr g) := by
    rcases carr_mem pg with e | e
    · rw [e]; exact pg
    · rw [e]; exact oppH_pg pg
  unfold sp_line_planes
  refine ⟨rfl, ?_⟩
  obtain ⟨c, ec⟩ : ∃ c, carr g = c := ⟨_, rfl⟩
  rw [ec] at pc hE h
  obtain ⟨u1, u2, u3, _, _⟩ := uAB_le pc.1
  have g0 := gcd2_pos pc.1
  have cz := pc.2.2
  let S : Option Vl → Option Vl → Option Vl → Option Vl → Option Vl → List Cell → M := fun z2 z3 z4 z5 z6 s => ⟨[some (.d (.lst (hs.map hpD))), some (.d (hpD c)), z2, z3, z4, z5, z6], s⟩
  refine seq_to (S none none none none none st) (fun K hK => carrier_ok hp hl hg (by rw [ec]; exact hK)) ?_
  let s2 : Option Vl := some (.d (.int (gcd2 c)))
  refine seq_to (S s2 none none none none st) (fun K hK => gcd_ok hK) ?_
  refine seq_to (S s2 (some (.c st.length)) none none none (st ++ [Cell.lst ([c, oppH c].map hpD)])) (fun K hK => opp_ok ⟨slt rfl, hK⟩) ?_
  refine seq_mid (fun m => ∃ (z4 z5 z6 : Option Dt), m = S s2 (some (.c st.length)) (nv z4) (nv z5) (nv z6) (st ++ [Cell.lst ((lineR hs c).map hpD)])) (fun K hK => ?_) ?_
  · refine ⟨slt rfl, ?_⟩
    show dLoop (.nm 4) _ _ none _ ([(1 : Int), -1].map .int) _
    refine each_inv (lk := none) Dt.int (fun r m => ∃ (acc : List Hp3) (z4 z5 z6 : Option Dt), acc.length + r.length ≤ 4 ∧ (∀ t ∈ r, t = 1 ∨ t = -1) ∧ acc ++ (r.flatMap fun t => endP hs (uA c * t) (uB c * t)) = lineR hs c ∧ m = S s2 (some (.c st.length)) (nv z4) (nv z5) (nv z6) (st ++ [Cell.lst (acc.map hpD)])) (fun _ _ _ => trivial) ?_ ?_ [1, -1] _ ⟨[c, oppH c], none, none, none, Nat.le_of_ble_eq_true rfl, fun t ht => by
      simp at ht
      exact ht, by
      unfold lineR
      rw [List.append_assoc]
      simp, rfl⟩
    · rintro t r _ K2 hK2 ⟨acc, z4, z5, z6, hle, hr, he, rfl⟩
      rw [List.length_cons] at hle
      rw [List.flatMap_cons] at he
      have ht := hr t List.mem_cons_self
      have hr' : ∀ t ∈ r, t = 1 ∨ t = -1 := fun x hx => hr x (List.mem_cons_of_mem _ hx)
      obtain ⟨a, ea⟩ : ∃ a, uA c * t = a := ⟨_, rfl⟩
      obtain ⟨b, eb⟩ : ∃ b, uB c * t = b := ⟨_, rfl⟩
      have ab : a.natAbs ≤ 1000000 ∧ b.natAbs ≤ 1000000 ∧ ¬ (a = 0 ∧ b = 0) := by
        rcases ht with rfl | rfl
        · rw [Int.mul_one] at ea eb
          rw [← ea, ← eb]
          exact ⟨by omega, by omega, u3⟩
        · rw [← ea, ← eb]
          exact ⟨by omega, by omega, by omega⟩
      rw [ea, eb] at he
      have tz : t.natAbs.log2 = 0 := by rcases ht with rfl | rfl <;> decide
      have lg : ∀ {x : Int}, x.natAbs ≤ 1000000 → x.natAbs.log2 ≤ 20 := fun {x} hx => by
        have := log2_mono hx
        have e : Nat.log2 1000000 = 19 := by decide
        omega
      have zi : ∀ {x : Int}, x.natAbs ≤ 1000000 → zb (x : Rat) ≤ 22 := fun {x} hx => by
        have := lg hx
        unfold zb
        rw [Rat.num_intCast, Rat.den_intCast]
        have e : Nat.log2 1 = 0 := by decide
        omega
      refine seq_to (S s2 (some (.c st.length)) (some (.d (.int t))) (some (.d (.tup [fr (a : Rat), fr (b : Rat)]))) (nv z6) (st ++ [Cell.lst (acc.map hpD)])) (fun K hK => ?_) ?_
      · refine ⟨by show gcd2 c ≠ 0; omega, ?_⟩
        refine ⟨mulok (zm (by show (uA c).natAbs.log2 + _ < _; have := lg (x := uA c) (by omega); omega)), ?_⟩
        show sp_fraction [.d (.int (uA c * t)), .d (.int 1)] _ _
        rw [ea]
        refine frac1_ok ?_
        refine ⟨by show gcd2 c ≠ 0; omega, ?_⟩
        refine ⟨mulok (zm (by show (uB c).natAbs.log2 + _ < _; have := lg (x := uB c) (by omega); omega)), ?_⟩
        show sp_fraction [.d (.int (uB c * t)), .d (.int 1)] _ _
        rw [eb]
        refine frac1_ok ?_
        exact ⟨lineN rfl, hK⟩
      refine seq_to (S s2 (some (.c st.length)) (some (.d (.int t))) (some (.d (.tup [fr (a : Rat), fr (b : Rat)]))) (some (.d (ofr (supF a b hs)))) (st ++ [Cell.lst (acc.map hpD)])) (fun K hK => ?_) ?_
      · exact sup_ok (n := 30) (fun k hk => (hp k hk).1) (Nat.le_trans (zi ab.1) (by decide)) (Nat.le_trans (zi ab.2.1) (by decide)) (fun k hk => (hp k hk).z) (by decide) (by omega) hK
      cases hs' : supF a b hs with
      | none =>
        have : endP hs a b = [] := by unfold endP; rw [hs']
        rw [this, List.nil_append] at he
        refine guard_end (fun m => m = S s2 (some (.c st.length)) (some (.d (.int t))) (some (.d (.tup [fr (a : Rat), fr (b : Rat)]))) (some (.d .non)) (st ++ [Cell.lst (acc.map hpD)])) (fun K hK => hK _ rfl) ?_
        rintro _ rfl
        exact hK2 _ ⟨acc, some (.int t), some (.tup [fr (a : Rat), fr (b : Rat)]), some .non, by omega, hr', he, rfl⟩
      | some e =>
        have ee : endP hs a b = [mkH a b e] := by unfold endP; rw [hs']
        rw [ee] at he
        have ez := sup_zz (n := 30) (Nat.le_trans (zi ab.1) (by decide)) (Nat.le_trans (zi ab.2.1) (by decide)) (fun k hk => (hp k hk).z) e hs'
        have nz : ¬ ((a : Rat) = 0 ∧ (b : Rat) = 0) := fun ⟨x, y⟩ => ab.2.2 ⟨Rat.intCast_eq_zero_iff.mp x, Rat.intCast_eq_zero_iff.mp y⟩
        refine ifs_t (S s2 (some (.c st.length)) (some (.d (.int t))) (some (.d (.tup [fr (a : Rat), fr (b : Rat)]))) (some (.d (fr e))) (st ++ [Cell.lst (acc.map hpD)])) (fun K h => h) ?_
        refine append_st (k := st.length) (xs := acc.map hpD) (hpD (mkH a b e)) ?_ ?_ (fun C hC => ?_) (small_lt (by rw [List.length_map]; omega)) ?_
        · rfl
        · exact getElem_last _ _
        · exact mkplane_ok (n := 1000) nz (Nat.le_trans (zi ab.1) (by decide)) (Nat.le_trans (zi ab.2.1) (by decide)) (by omega) (by decide) hC
        · dsimp only
          show K2 ⟨_, (st ++ [_]).set st.length _⟩
          rw [set_last]
          refine hK2 _ ⟨acc ++ [mkH a b e], some (.int t), some (.tup [fr (a : Rat), fr (b : Rat)]), some (fr e), by rw [List.length_append, List.length_singleton]; omega, hr', by rw [List.append_assoc]; exact he, ?_⟩
          dsimp only [S]
          rw [List.map_append]
          rfl
    · rintro _ ⟨acc, z4, z5, z6, _, _, he, rfl⟩
      rw [List.flatMap_nil, List.append_nil] at he
      rw [he]
      exact hK _ ⟨_, _, _, rfl⟩
  rintro _ ⟨z4, z5, z6, rfl⟩
  have ll : (lineR hs c).length ≤ 4 := by
    have l1 : ∀ a b, (endP hs a b).length ≤ 1 := fun a b => by
      unfold endP
      cases supF a b hs <;> exact Nat.le_of_ble_eq_true rfl
    unfold lineR
    rw [List.length_append, List.length_append]
    have := l1 (uA c * 1) (uB c * 1)
    have := l1 (uA c * -1) (uB c * -1)
    show 2 + _ + _ ≤ 4
    omega
  unfold dRet dCall dCons
  refine fz_at (i := 3) (k := st.length) (m := S s2 (some (.c st.length)) (nv z4) (nv z5) (nv z6) (st ++ [Cell.lst ((lineR hs c).map hpD)])) (xs := (lineR hs c).map hpD) rfl (getElem_last _ _) ?_
  have e : frz st.length ((lineR hs c).map hpD) (S s2 (some (.c st.length)) (nv z4) (nv z5) (nv z6) (st ++ [Cell.lst ((lineR hs c).map hpD)])) = S s2 (some (.d (.lst ((lineR hs c).map hpD)))) (nv z4) (nv z5) (nv z6) (st ++ [.dead]) := by
    unfold frz
    simp only [S, s2, List.map_cons, List.map_nil, set_last, if_true]
    cases z4 <;> cases z5 <;> cases z6 <;> rfl
  rw [e]
  refine inorder_ok hE (by omega) ?_
  exact tk0 h
theorem pointplanes_ok {z : Ray} {n : Nat} (h1 : zb z.1 ≤ n) (h2 : zb z.2 ≤ n) (hn : n ≤ 100000) (hE : ∀ k ∈ pointR z, Pg k) (h : Q (.d (.lst ((inOrd (pointR z)).map hpD))) st) : sp_point_planes [.d (rayD z)] st Q := by
  have z1 : zb (1 : Rat) = 2 := by decide +kernel
  have z1' : zb (-1 : Rat) = 2 := by decide +kernel
  have z0 : zb (0 : Rat) = 2 := zb0
  have za := zb_add z.1 z.2
  have zn := zb_neg (z.1 + z.2)
  have n10 : ¬ ((1 : Rat) = 0 ∧ (0 : Rat) = 0) := fun z => absurd z.1 (by decide)
  have n01 : ¬ ((0 : Rat) = 0 ∧ (1 : Rat) = 0) := fun z => absurd z.2 (by decide)
  have n11 : ¬ ((-1 : Rat) = 0 ∧ (-1 : Rat) = 0) := fun z => absurd z.1 (by decide +kernel)
  unfold sp_point_planes
  refine ⟨rfl, ?_⟩
  let S : Option Vl → M := fun z3 => ⟨[some (.d (rayD z)), some (.d (fr z.1)), some (.d (fr z.2)), z3], st⟩
  refine seq_to (S none) (fun K hK => ⟨rfl, hK⟩) ?_
  refine seq_to (S (some (.d (hpD (mkH (-1) (-1) (-(z.1 + z.2))))))) (fun K hK => ?_) ?_
  · refine negative_ok (x := 1) ?_
    refine negative_ok (x := 1) ?_
    refine add_ok (x := z.1) (y := z.2) (zm (by omega)) ?_
    refine negative_ok ?_
    exact mkplane_ok (n := 2 * n + 2) n11 (by omega) (by omega) (by omega) (by omega) hK
  refine mkplane_ok (p := 1) (q := 0) (r := z.1) (n := 2 * n + 2) n10 (by omega) (by omega) (by omega) (by omega) ?_
  refine mkplane_ok (p := 0) (q := 1) (r := z.2) (n := 2 * n + 2) n01 (by omega) (by omega) (by omega) (by omega) ?_
  refine ⟨slt rfl, ?_⟩
  exact inorder_ok (L0 := pointR z) hE (Nat.le_of_ble_eq_true rfl) (tk h)
end
end PG

set_option maxRecDepth 100000
set_option maxHeartbeats 4000000

namespace PG
open PySem PySem.Spec PyProof.Rows L2 RT
theorem s_empty : shD (.str ("empty" : Str)) := shS (by decide +kernel)
theorem s_area : shD (.str ("area" : Str)) := shS (by decide +kernel)
theorem s_point : shD (.str ("point" : Str)) := shS (by decide +kernel)
theorem ne_ae : decide (("area" : Str) = "empty") = false := by decide +kernel
theorem ep1 : Pg ⟨1, 0, -1⟩ := ⟨fun ⟨a, _⟩ => absurd a (by decide), by decide, by decide, by decide, by decide⟩
theorem ep2 : Pg ⟨-1, 0, 0⟩ := ⟨fun ⟨a, _⟩ => absurd a (by decide), by decide, by decide, by decide, by decide⟩
theorem emptyR_pg : ∀ k ∈ emptyR, Pg k := fun k hk => by
  unfold emptyR at hk
  simp at hk
  rcases hk with rfl | rfl
  · exact ep1
  · exact ep2
theorem mid_z {hs : List Hp3} (hp : ∀ g ∈ hs, Pg g) : zb (midH hs) ≤ 602 ∧ zb (midS hs) ≤ 60000 := by
  have z1 : zb (1 : Rat) = 2 := by decide +kernel
  have z1' : zb (-1 : Rat) = 2 := by decide +kernel
  have z0 : zb (0 : Rat) = 2 := zb0
  have hz : ∀ g ∈ hs, HZ 30 g := fun g hg => (hp g hg).z
  have a : zb (midH hs) ≤ 602 := near_z (inf_z (n := 30) (by omega) (by omega) hz) (sup_zz (n := 30) (by omega) (by omega) hz) (by decide)
  have hz2 : ∀ g ∈ atH hs (midH hs), HZ 2000 g := fun g hg => by
    unfold atH at hg
    have zn := zb_neg (midH hs)
    rcases List.mem_append.mp hg with hg | hg
    · obtain ⟨b, c, d⟩ := hz g hg
      exact ⟨by omega, by omega, by omega⟩
    · simp only [List.mem_cons, List.not_mem_nil, or_false] at hg
      rcases hg with rfl | rfl
      · exact mkH_z (by omega)
      · exact mkH_z (by omega)
  exact ⟨a, near_z (inf_z (n := 2000) (by omega) (by omega) hz2) (fun b e => Nat.le_trans (sup_zz (n := 2000) (by omega) (by omega) hz2 b e) (by decide)) (by decide) |> fun h => Nat.le_trans h (by decide)⟩
section
variable {st : List Cell} {Q : Vl → List Cell → Prop}
theorem canonical_ok {hs : List Hp3} (hp : ∀ g ∈ hs, Pg g) (hl : hs.length ≤ 40) (hE1 : emptyB hs = false → ∀ g, lineF hs = some g → isPoint hs g = true → ∀ k ∈ pointR (midH hs, midS hs), Pg k) (hE2 : emptyB hs = false → ∀ g, lineF hs = some g → isPoint hs g = false → ∀ k ∈ lineR hs (carr g), Pg k) (h : Q (.d (.lst ((canP hs).map hpD))) st) : sp_canonical_half_planes [.d (.lst (hs.map hpD))] st Q := by
  have hd : ∀ g ∈ hs, Dir g := fun g hg => (hp g hg).1
  have hz : ∀ g ∈ hs, HZ 30 g := fun g hg => (hp g hg).z
  unfold sp_canonical_half_planes
  refine ⟨rfl, ?_⟩
  let S : M := ⟨[some (.d (.lst (hs.map hpD))), some (.d (.str (kindF hs)))], st⟩
  refine seq_to S (fun K hK => kind_ok hd hz (by decide) (by omega) hK) ?_
  unfold canP at h
  by_cases ce : emptyB hs = true
  · rw [if_pos ce] at h
    have ek : kindF hs = "empty" := by unfold kindF; rw [if_pos ce]
    refine PG.ifs_t' S (fun K hK => ?_) ?_
    · show shD (.str (kindF hs)) ∧ shD (.str ("empty" : Str)) ∧ K (eqD (.str (kindF hs)) (.str ("empty" : Str))) S
      rw [ek, eqD_self]
      rw [ek] at *
      exact ⟨s_empty, s_empty, hK⟩
    · refine ⟨lineN rfl, lineN rfl, slt rfl, ?_⟩
      exact inorder_ok (L0 := emptyR) emptyR_pg (Nat.le_of_ble_eq_true rfl) (tk h)
  have ce' : emptyB hs = false := by simpa using ce
  rw [if_neg ce] at h
  cases hL : lineF hs with
  | none =>
    rw [hL] at h
    have ek : kindF hs = "area" := by unfold kindF; rw [if_neg ce, hL]
    refine guard_st S (fun K hK => ?_) ?_
    · show shD (.str (kindF hs)) ∧ shD (.str ("empty" : Str)) ∧ K (eqD (.str (kindF hs)) (.str ("empty" : Str))) S
      rw [ek, eqS, ne_ae]
      exact ⟨s_area, s_empty, hK⟩
    refine PG.ifs_t' S (fun K hK => ?_) (needed_ok hp (by omega) (tk h))
    show shD (.str (kindF hs)) ∧ shD (.str ("area" : Str)) ∧ K (eqD (.str (kindF hs)) (.str ("area" : Str))) S
    rw [ek, eqD_self]
    exact ⟨s_area, s_area, hK⟩
  | some g =>
    rw [hL] at h
    have ek : kindF hs = kindR (infF (-(g.q : Rat)) g.p hs) (supF (-(g.q : Rat)) g.p hs) := by unfold kindF; rw [if_neg ce, hL]
    obtain ⟨k1, k2, k3⟩ := kindR_ne (a := infF (-(g.q : Rat)) g.p hs) (b := supF (-(g.q : Rat)) g.p hs)
    have k4 := isPoint_eq (hs := hs) (g := g)
    rw [← ek] at k1 k2 k3 k4
    refine guard_st S (fun K hK => ?_) ?_
    · show shD (.str (kindF hs)) ∧ shD (.str ("empty" : Str)) ∧ K (eqD (.str (kindF hs)) (.str ("empty" : Str))) S
      rw [eqS, k1]
      exact ⟨k3, s_empty, hK⟩
    refine guard_st S (fun K hK => ?_) ?_
    · show shD (.str (kindF hs)) ∧ shD (.str ("area" : Str)) ∧ K (eqD (.str (kindF hs)) (.str ("area" : Str))) S
      rw [eqS, k2]
      exact ⟨k3, s_area, hK⟩
    have h : Q (.d (.lst ((if isPoint hs g = true then inOrd (pointR (midH hs, midS hs)) else inOrd (lineR hs (carr g))).map hpD))) st := h
    cases cp : isPoint hs g with
    | true =>
      rw [cp, if_pos rfl] at h
      rw [cp] at k4
      refine PG.ifs_t' S (fun K hK => ?_) ?_
      · show shD (.str (kindF hs)) ∧ shD (.str ("point" : Str)) ∧ K (eqD (.str (kindF hs)) (.str ("point" : Str))) S
        rw [eqS, k4]
        exact ⟨k3, s_point, hK⟩
      obtain ⟨m1, m2⟩ := mid_z hp
      refine sample_ok hd hz (by decide) (by decide) (by omega) ?_
      unfold sampleF
      rw [if_neg ce]
      exact pointplanes_ok (z := (midH hs, midS hs)) (n := 60000) (Nat.le_trans m1 (by decide)) m2 (by decide) (hE1 ce' g hL cp) (tk h)
    | false =>
      rw [cp, if_neg Bool.false_ne_true] at h
      rw [cp] at k4
      refine guard_st S (fun K hK => ?_) ?_
      · show shD (.str (kindF hs)) ∧ shD (.str ("point" : Str)) ∧ K (eqD (.str (kindF hs)) (.str ("point" : Str))) S
        rw [eqS, k4]
        exact ⟨k3, s_point, hK⟩
      exact lineplanes_ok hp (by omega) hL (hE2 ce' g hL cp) (tk h)

theorem bnd2 {hs : List Hp3} {p q : Rat} (hd : ∀ g ∈ hs, Dir g) (h0 : ¬ (p = 0 ∧ q = 0)) (he : emptyB hs = false) : boundsF p q hs = some (infF p q hs, supF p q hs) := by
  rw [fov_rng h0 hd, if_neg (by rw [he]; exact Bool.false_ne_true)]
end
end PG

set_option maxRecDepth 100000
set_option maxHeartbeats 4000000

namespace PG
open PySem PySem.Spec PyProof.Rows L2 RT
theorem point_one {hs : List Hp3} (hd : ∀ g ∈ hs, Dir g) (he : emptyB hs = false) {g : Hp3} (hg : lineF hs = some g) (hp : isPoint hs g = true) {x y : Ray} (hx : Rg hs x) (hy : Rg hs y) : x = y := by
  obtain ⟨hm, hl⟩ := line_some hd hx hg
  have gd := hd g hm
  have hi := inf_is (p := -(g.q : Rat)) (q := g.p) hd hx
  have hs' := sup_is (p := -(g.q : Rat)) (q := g.p) hd hx
  unfold isPoint at hp
  cases ei : infF (-(g.q : Rat)) g.p hs with
  | none => rw [ei] at hp; cases hp
  | some l =>
    cases es : supF (-(g.q : Rat)) g.p hs with
    | none => rw [ei, es] at hp; cases hp
    | some u =>
      rw [ei, es] at hp
      rw [ei] at hi
      rw [es] at hs'
      have lu : l = u := of_decide_eq_true hp
      have w : ∀ z, Rg hs z → lin2 (-(g.q : Rat)) g.p z = l := fun z hz => by
        have a := hi.1 z hz
        have b := hs'.1 z hz
        rw [← lu] at b
        grind
      have a1 := w x hx
      have a2 := w y hy
      have b1 := hl x hx
      have b2 := hl y hy
      unfold lin2 at a1 a2
      unfold valH at b1 b2
      have nz : (g.p : Rat) * g.p + (g.q : Rat) * g.q ≠ 0 := fun z => by
        have h1 : ((g.p * g.p + g.q * g.q : Int) : Rat) = 0 := by
          rw [Rat.intCast_add, Rat.intCast_mul, Rat.intCast_mul]
          exact z
        have h2 := Rat.intCast_eq_zero_iff.mp h1
        have p1 : 0 ≤ g.p * g.p := by
          rw [← Int.natAbs_mul_self]
          omega
        have p2 : 0 ≤ g.q * g.q := by
          rw [← Int.natAbs_mul_self]
          omega
        have q1 : g.p * g.p = 0 := by omega
        have q2 : g.q * g.q = 0 := by omega
        refine gd ⟨?_, ?_⟩
        · rcases Int.mul_eq_zero.mp q1 with z | z <;> exact z
        · rcases Int.mul_eq_zero.mp q2 with z | z <;> exact z
      generalize (g.p : Rat) = p at *
      generalize (g.q : Rat) = q at *
      have c1 : (p * p + q * q) * (x.1 - y.1) = 0 := by grind
      have c2 : (p * p + q * q) * (x.2 - y.2) = 0 := by grind
      refine Prod.ext ?_ ?_
      · rcases Rat.mul_eq_zero.mp c1 with z | z
        · exact absurd z nz
        · grind
      · rcases Rat.mul_eq_zero.mp c2 with z | z
        · exact absurd z nz
        · grind
end PG

set_option maxRecDepth 100000
set_option maxHeartbeats 4000000
namespace PG
open PySem PySem.Spec PyProof.Rows L2 RT
def endO (o : Option Rat) (p q : Rat) : List Hp3 := match o with
  | none => []
  | some e => [mkH p q e]
theorem endP_sup {hs : List Hp3} {a b : Int} : endP hs a b = endO (supF a b hs) a b := by
  unfold endP endO
  cases supF (a : Rat) (b : Rat) hs <;> rfl
section
variable {st : List Cell} {Q : Vl → List Cell → Prop}
end
end PG

set_option maxRecDepth 100000
set_option maxHeartbeats 4000000

namespace PG
open PySem PySem.Spec PyProof.Rows L2 RT
def Pt (g : Hp3) : Prop := Pg g ∧ g.p.natAbs ≤ 9 ∧ g.q.natAbs ≤ 9 ∧ g.r.natAbs ≤ 30
theorem castM2 {a b : Int} : ((a * b : Int) : Rat) = (a : Rat) * (b : Rat) := Rat.intCast_mul a b
theorem mkH_pgD {p q r : Rat} {D x y z : Int} (h : ¬ (p = 0 ∧ q = 0)) (hD : D ≠ 0) (hx : p * D = x) (hy : q * D = y) (hz : r * D = z) (b1 : x.natAbs ≤ 1000000) (b2 : y.natAbs ≤ 1000000) (b3 : z.natAbs ≤ 1000000) : Pg (mkH p q r) ∧ (mkH p q r).p.natAbs ≤ x.natAbs ∧ (mkH p q r).q.natAbs ≤ y.natAbs ∧ (mkH p q r).r.natAbs ≤ z.natAbs := by
  have pos : ∀ {D x y z : Int}, 0 < D → p * D = x → q * D = y → r * D = z → x.natAbs ≤ 1000000 → y.natAbs ≤ 1000000 → z.natAbs ≤ 1000000 → Pg (mkH p q r) ∧ (mkH p q r).p.natAbs ≤ x.natAbs ∧ (mkH p q r).q.natAbs ≤ y.natAbs ∧ (mkH p q r).r.natAbs ≤ z.natAbs := fun {D x y z} hD hx hy hz b1 b2 b3 => by
    obtain ⟨c1, c2, c3⟩ := mkH_le h (Rat.intCast_pos.mpr hD) hx hy hz
    exact ⟨⟨mkH_dir h, mkH_prim h, by omega, by omega, by omega⟩, c1, c2, c3⟩
  rcases Int.lt_or_gt_of_ne hD with c | c
  · have := pos (D := -D) (x := -x) (y := -y) (z := -z) (by omega) (by rw [Rat.intCast_neg, Rat.intCast_neg, Rat.mul_neg, hx]) (by rw [Rat.intCast_neg, Rat.intCast_neg, Rat.mul_neg, hy]) (by rw [Rat.intCast_neg, Rat.intCast_neg, Rat.mul_neg, hz]) (by omega) (by omega) (by omega)
    rw [Int.natAbs_neg, Int.natAbs_neg, Int.natAbs_neg] at this
    exact this
  · exact pos c hx hy hz b1 b2 b3
section
variable {st : List Cell} {Q : Vl → List Cell → Prop}
end

def Sm (v : Rat) : Prop := ∃ n d : Int, d ≠ 0 ∧ v * d = n ∧ d.natAbs ≤ 3000 ∧ n.natAbs ≤ 90000
def Lk (k : Int) (l : Ln) : Prop := ∃ U V W : Int, l.1 * k = U ∧ l.2.1 * k = V ∧ l.2.2 * k = W ∧ U.natAbs ≤ 9 ∧ V.natAbs ≤ 162 ∧ W.natAbs ≤ 270
theorem mulN {a b : Int} {m n : Nat} (ha : a.natAbs ≤ m) (hb : b.natAbs ≤ n) : (a * b).natAbs ≤ m * n := by
  rw [Int.natAbs_mul]
  exact Nat.mul_le_mul ha hb
theorem line_lk {a b : Int} (h0 : ¬ (a = 0 ∧ b = 0)) (ha : a.natAbs ≤ 9) (hb : b.natAbs ≤ 9) : ∃ k : Int, k ≠ 0 ∧ ∀ g, Pt g → Lk k (lineL a b g) := by
  by_cases c : b = 0
  · have ha0 : a ≠ 0 := fun z => h0 ⟨z, c⟩
    refine ⟨a, ha0, fun g hg => ⟨g.p, g.q * a, g.r * a, ?_, ?_, ?_, hg.2.1, by have := mulN hg.2.2.1 ha; omega, by have := mulN hg.2.2.2 ha; omega⟩⟩
    · unfold lineL
      rw [if_pos (by rw [c]; rfl)]
      show (g.p : Rat) / (a : Rat) * (a : Rat) = g.p
      exact Rat.div_mul_cancel fun z => ha0 (Rat.intCast_eq_zero_iff.mp z)
    · unfold lineL
      rw [if_pos (by rw [c]; rfl)]
      exact castM2.symm
    · unfold lineL
      rw [if_pos (by rw [c]; rfl)]
      exact castM2.symm
  · have hb0 : (b : Rat) ≠ 0 := fun z => c (Rat.intCast_eq_zero_iff.mp z)
    refine ⟨b, c, fun g hg => ⟨g.q, g.p * b - g.q * a, g.r * b, ?_, ?_, ?_, hg.2.2.1, ?_, by have := mulN hg.2.2.2 hb; omega⟩⟩
    · unfold lineL
      rw [if_neg hb0]
      show (g.q : Rat) / (b : Rat) * (b : Rat) = g.q
      exact Rat.div_mul_cancel hb0
    · unfold lineL
      rw [if_neg hb0]
      show ((g.p : Rat) - (g.q : Rat) / (b : Rat) * (a : Rat)) * (b : Rat) = _
      rw [Rat.intCast_sub, castM2, castM2]
      have e : (g.q : Rat) / (b : Rat) * (b : Rat) = g.q := Rat.div_mul_cancel hb0
      generalize (g.q : Rat) / (b : Rat) = k at *
      rw [← e]
      grind
    · unfold lineL
      rw [if_neg hb0]
      exact castM2.symm
    · have m1 := mulN hg.2.1 hb
      have m2 := mulN hg.2.2.1 ha
      omega
theorem rows_sm {k : Int} (hk : k ≠ 0) {ls : List Ln} (h : ∀ l ∈ ls, Lk k l) : ∀ r ∈ rowsL ls, r.1 ≠ 0 → Sm (r.2.2 / r.1) := fun r hr h1 => by
  have k0 : (k : Rat) ≠ 0 := fun z => hk (Rat.intCast_eq_zero_iff.mp z)
  rcases List.mem_append.mp hr with hr | hr
  · obtain ⟨U, V, W, e1, e2, e3, b1, b2, b3⟩ := h r (List.mem_filter.mp hr).1
    refine ⟨W, U, fun z => ?_, ?_, by omega, by omega⟩
    · rw [z] at e1
      rcases Rat.mul_eq_zero.mp e1 with w | w
      · exact h1 w
      · exact k0 w
    · rw [← e1, ← e3]
      have := mdc (w := r.2.2) h1
      generalize r.2.2 / r.1 = t at *
      rw [this]
      grind
  · obtain ⟨a, ha, hr⟩ := List.mem_flatMap.mp hr
    obtain ⟨b, hb, rfl⟩ := List.mem_map.mp hr
    obtain ⟨U1, V1, W1, e1, e2, e3, b1, b2, b3⟩ := h a (List.mem_filter.mp ha).1
    obtain ⟨U2, V2, W2, f1, f2, f3, c1, c2, c3⟩ := h b (List.mem_filter.mp hb).1
    have hv : b.2.1 ≠ 0 := by
      have := of_decide_eq_true (List.mem_filter.mp hb).2
      grind
    have hx : (combo a b).1 = a.1 + -(a.2.1 / b.2.1) * b.1 := rfl
    have hy : (combo a b).2.2 = a.2.2 + -(a.2.1 / b.2.1) * b.2.2 := rfl
    have key1 : (combo a b).1 * (k * V2) = U1 * V2 - V1 * U2 := by
      rw [hx, ← e1, ← e2, ← f1, ← f2]
      have := mdc (w := a.2.1) hv
      generalize a.2.1 / b.2.1 = t at *
      rw [this]
      grind
    have key2 : (combo a b).2.2 * (k * V2) = W1 * V2 - V1 * W2 := by
      rw [hy, ← e3, ← e2, ← f3, ← f2]
      have := mdc (w := a.2.1) hv
      generalize a.2.1 / b.2.1 = t at *
      rw [this]
      grind
    have V0 : (V2 : Rat) ≠ 0 := fun z => by
      rw [z] at f2
      rcases Rat.mul_eq_zero.mp f2 with w | w
      · exact hv w
      · exact k0 w
    refine ⟨W1 * V2 - V1 * W2, U1 * V2 - V1 * U2, fun z => ?_, ?_, ?_, ?_⟩
    · have z' : ((U1 * V2 - V1 * U2 : Int) : Rat) = 0 := by rw [z]; rfl
      rw [Rat.intCast_sub, castM2, castM2, ← key1] at z'
      rcases Rat.mul_eq_zero.mp z' with w | w
      · exact h1 w
      · rcases Rat.mul_eq_zero.mp w with w | w
        · exact k0 w
        · exact V0 w
    · rw [Rat.intCast_sub, castM2, castM2, Rat.intCast_sub, castM2, castM2, ← key1, ← key2]
      have := mdc (w := (combo a b).2.2) h1
      generalize (combo a b).2.2 / (combo a b).1 = t at *
      rw [this]
      grind
    · have m1 := mulN b1 c2
      have m2 := mulN b2 c1
      omega
    · have m1 := mulN b3 c2
      have m2 := mulN b2 c3
      omega
theorem bounds_sm {hs : List Hp3} (hp : ∀ g ∈ hs, Pt g) {a b : Int} (h0 : ¬ (a = 0 ∧ b = 0)) (ha : a.natAbs ≤ 9) (hb : b.natAbs ≤ 9) {o : Option Rat × Option Rat} (e : boundsF a b hs = some o) : (∀ v, o.1 = some v → Sm v) ∧ ∀ v, o.2 = some v → Sm v := by
  obtain ⟨k, hk, hL⟩ := line_lk h0 ha hb
  have hl : ∀ l ∈ hs.map (lineL a b), Lk k l := fun l hl => by
    obtain ⟨g, hg, rfl⟩ := List.mem_map.mp hl
    exact hL g (hp g hg)
  have rs := rows_sm hk hl
  have ro := rowsR_some e
  rw [ro]
  constructor
  · intro v hv
    obtain ⟨x, hx, e2⟩ := List.mem_map.mp (greatest_some hv).1
    cases e2
    obtain ⟨r, hr, rfl⟩ := List.mem_map.mp hx
    obtain ⟨h1, h2⟩ := List.mem_filter.mp hr
    obtain ⟨l, hl', rfl⟩ := List.mem_map.mp h1
    exact rs l hl' (by have : l.1 < 0 := of_decide_eq_true h2; grind)
  · intro v hv
    obtain ⟨x, hx, e2⟩ := List.mem_map.mp (least_some hv).1
    cases e2
    obtain ⟨r, hr, rfl⟩ := List.mem_map.mp hx
    obtain ⟨h1, h2⟩ := List.mem_filter.mp hr
    obtain ⟨l, hl', rfl⟩ := List.mem_map.mp h1
    exact rs l hl' (by have : 0 < l.1 := of_decide_eq_true h2; grind)
theorem end_pg {hs : List Hp3} (hp : ∀ g ∈ hs, Pt g) (he : emptyB hs = false) {a b : Int} (h0 : ¬ (a = 0 ∧ b = 0)) (ha : a.natAbs ≤ 9) (hb : b.natAbs ≤ 9) : ∀ k ∈ endP hs a b, Pg k := fun k hk => by
  have hd : ∀ g ∈ hs, Dir g := fun g hg => (hp g hg).1.1
  have nz : ¬ ((a : Rat) = 0 ∧ (b : Rat) = 0) := fun ⟨x, y⟩ => h0 ⟨Rat.intCast_eq_zero_iff.mp x, Rat.intCast_eq_zero_iff.mp y⟩
  rw [endP_sup] at hk
  have := (bounds_sm hp h0 ha hb (bnd2 hd nz he)).2
  dsimp only at this
  cases hs' : supF a b hs with
  | none => rw [hs'] at hk; exact nomatch hk
  | some v =>
    rw [hs'] at hk
    rw [List.mem_singleton.mp (show k ∈ [mkH (a : Rat) (b : Rat) v] from hk)]
    obtain ⟨n, d, d0, e, b1, b2⟩ := this v hs'
    have m1 := mulN ha b1
    have m2 := mulN hb b1
    exact (mkH_pgD (D := d) (x := a * d) (y := b * d) (z := n) nz d0 castM2.symm castM2.symm e (by omega) (by omega) (by omega)).1
theorem cand_dm {hs : List Hp3} (hp : ∀ g ∈ hs, Pt g) : ∀ c ∈ cands hs, ∃ D a b : Int, D ≠ 0 ∧ D.natAbs ≤ 200 ∧ c.1 * D = a ∧ c.2 * D = b ∧ a.natAbs ≤ 600 ∧ b.natAbs ≤ 600 := fun c hc => by
  have dm : ∀ {n d : Int}, d ≠ 0 → Rat.divInt n d * d = n := fun h => by rw [Rat.mul_comm]; exact divInt_mul h
  rcases List.mem_cons.mp hc with rfl | hc
  · exact ⟨1, 0, 0, by decide, by decide, by decide +kernel, by decide +kernel, by decide, by decide⟩
  · obtain ⟨g, hg, hc⟩ := List.mem_flatMap.mp hc
    have pg := hp g hg
    rcases List.mem_cons.mp hc with rfl | hc
    · have hpos : 0 < dotI g g := by
        have := pg.1.1.pos
        exact Rat.intCast_pos.mp this
      have m1 := mulN pg.2.1 pg.2.1
      have m2 := mulN pg.2.2.1 pg.2.2.1
      have m3 := mulN pg.2.2.2 pg.2.1
      have m4 := mulN pg.2.2.2 pg.2.2.1
      have ed : dotI g g = g.p * g.p + g.q * g.q := rfl
      exact ⟨dotI g g, g.r * g.p, g.r * g.q, by omega, by omega, dm (by omega), dm (by omega), by omega, by omega⟩
    · obtain ⟨k, hk, e⟩ := List.mem_filterMap.mp hc
      have pk := hp k hk
      unfold meetR at e
      by_cases c0 : dt g k = 0
      · rw [if_pos c0] at e
        cases e
      · rw [if_neg c0] at e
        cases e
        have m1 := mulN pg.2.1 pk.2.2.1
        have m2 := mulN pg.2.2.1 pk.2.1
        have m3 := mulN pg.2.2.2 pk.2.2.1
        have m4 := mulN pk.2.2.2 pg.2.2.1
        have m5 := mulN pg.2.1 pk.2.2.2
        have m6 := mulN pk.2.1 pg.2.2.2
        have ed : dt g k = g.p * k.q - g.q * k.p := rfl
        exact ⟨dt g k, g.r * k.q - k.r * g.q, g.p * k.r - k.p * g.r, c0, by omega, dm c0, dm c0, by omega, by omega⟩
theorem pointR_pg {hs : List Hp3} (hp : ∀ g ∈ hs, Pt g) (he : emptyB hs = false) {g : Hp3} (hg : lineF hs = some g) (hpt : isPoint hs g = true) : ∀ k ∈ pointR (midH hs, midS hs), Pg k := fun k hk => by
  have hd : ∀ g ∈ hs, Dir g := fun g hg => (hp g hg).1.1
  obtain ⟨x0, hx0⟩ := not_empty hd he
  obtain ⟨c, hc, hcr⟩ := cand_of hd hx0
  have ec : c = (midH hs, midS hs) := point_one hd he hg hpt hcr (midS_in hd hx0)
  obtain ⟨D, a, b, d0, d1, e1, e2, b1, b2⟩ := cand_dm hp c hc
  rw [ec] at e1 e2
  dsimp only at e1 e2
  unfold pointR at hk
  simp only [List.mem_cons, List.not_mem_nil, or_false] at hk
  have c1 : (1 : Rat) * (D : Rat) = (D : Rat) := Rat.one_mul _
  have c0 : (0 : Rat) * (D : Rat) = ((0 : Int) : Rat) := Rat.zero_mul _
  rcases hk with rfl | rfl | rfl
  · exact (mkH_pgD (D := D) (x := D) (y := 0) (z := a) (fun z => absurd z.1 (by decide)) d0 c1 c0 e1 (by omega) (by decide) (by omega)).1
  · exact (mkH_pgD (D := D) (x := 0) (y := D) (z := b) (fun z => absurd z.2 (by decide)) d0 c0 c1 e2 (by decide) (by omega) (by omega)).1
  · refine (mkH_pgD (D := D) (x := -D) (y := -D) (z := -(a + b)) (fun z => absurd z.1 (by decide +kernel)) d0 ?_ ?_ ?_ (by omega) (by omega) (by omega)).1
    · rw [Rat.intCast_neg]; grind
    · rw [Rat.intCast_neg]; grind
    · rw [Rat.intCast_neg, Rat.intCast_add, ← e1, ← e2]; grind
end PG

set_option maxRecDepth 100000
set_option maxHeartbeats 4000000

namespace PG
open PySem PySem.Spec PyProof.Rows L2 RT
end PG

set_option maxRecDepth 100000
set_option maxHeartbeats 4000000

namespace PG
open PySem PySem.Spec PyProof.Rows L2 RT
section
variable {st : List Cell} {Q : Vl → List Cell → Prop} {hs : List Hp3} {a : Hp3} {n : Nat}
end
end PG

set_option maxRecDepth 100000
set_option maxHeartbeats 4000000
namespace PG
open PySem PySem.Spec PyProof.Rows L2 RT
section
variable {st : List Cell} {Q : Vl → List Cell → Prop} {hs : List Hp3} {n : Nat} {g : Hp3}
end
end PG

set_option maxRecDepth 100000
set_option maxHeartbeats 4000000
namespace PG
open PySem PySem.Spec PyProof.Rows L2 RT
section
variable {st : List Cell} {Q : Vl → List Cell → Prop} {hs : List Hp3} {n : Nat} {g : Hp3}
end
end PG

set_option maxRecDepth 100000
set_option maxHeartbeats 4000000

namespace PG
open PySem PySem.Spec PyProof.Rows L2 RT
section
variable {st : List Cell} {Q : Vl → List Cell → Prop} {hs : List Hp3} {a g k : Hp3} {n : Nat}
end
end PG

set_option maxRecDepth 100000
set_option maxHeartbeats 4000000

namespace PG
open PySem PySem.Spec PyProof.Rows L2 RT
section
variable {st : List Cell} {Q : Vl → List Cell → Prop} {hs : List Hp3} {a : Hp3}
end

end PG

set_option maxRecDepth 100000
set_option maxHeartbeats 4000000

namespace PG
open PySem PySem.Spec PyProof.Rows L2 RT
def ElW : El → Prop
  | .gap g => In 12 12 g
  | e => ElIn e
theorem ElIn.w {e : El} (h : ElIn e) : ElW e := by
  cases e with
  | gap g => exact in_le (by decide) (Pn.in_ h)
  | lens p c => exact h
  | prism d => exact h
  | afocal m => exact h
  | stop lo hi => exact h
theorem ElW.z {e : El} (h : ElW e) : ElZ 12 e := by
  cases e with
  | gap g =>
    have := in_zb (b := 8) (by decide) h (by decide) (by decide) (by decide)
    show zb g ≤ 12
    omega
  | lens p c => exact ⟨Nat.le_trans (ElIn.z (e := .lens p c) h).1 (by decide), Nat.le_trans (ElIn.z (e := .lens p c) h).2 (by decide)⟩
  | prism d => exact Nat.le_trans (ElIn.z (e := .prism d) h) (by decide)
  | afocal m => exact ⟨Nat.le_trans (ElIn.z (e := .afocal m) h).1 (by decide), (ElIn.z (e := .afocal m) h).2⟩
  | stop lo hi => exact ⟨fun q e => Nat.le_trans ((ElIn.z (e := .stop lo hi) h).1 q e) (by decide), fun q e => Nat.le_trans ((ElIn.z (e := .stop lo hi) h).2 q e) (by decide)⟩
theorem ElZ.ok {n : Nat} {e : El} (h : ElZ n e) : ElOk e := by
  cases e with
  | afocal m => exact h.2
  | gap g => trivial
  | lens p c => trivial
  | prism d => trivial
  | stop lo hi => trivial
theorem ElZ.le {n k : Nat} {e : El} (h : ElZ n e) (hk : n ≤ k) : ElZ k e := by
  cases e with
  | afocal m => exact ⟨Nat.le_trans h.1 hk, h.2⟩
  | gap g => exact Nat.le_trans h hk
  | lens p c => exact ⟨Nat.le_trans h.1 hk, Nat.le_trans h.2 hk⟩
  | prism d => exact Nat.le_trans h hk
  | stop lo hi => exact ⟨fun q e => Nat.le_trans (h.1 q e) hk, fun q e => Nat.le_trans (h.2 q e) hk⟩
theorem ElZ.ez {n : Nat} {e : El} (h : ElZ n e) : Ez n e := by
  cases e with
  | afocal m => exact h
  | gap g => exact h
  | lens p c => exact h
  | prism d => exact h
  | stop lo hi => trivial

structure Tz (N : Nat) (es : List El) : Prop where
  el : ∀ e ∈ es, ElZ N e
  pre : ∀ k, MZ N (transfer (es.take k))
theorem Tz.ok {N : Nat} {es : List El} (T : Tz N es) : ∀ e ∈ es, ElOk e := fun e he => (T.el e he).ok
theorem Tz.le {N K : Nat} {es : List El} (T : Tz N es) (h : N ≤ K) : Tz K es := ⟨fun e he => (T.el e he).le h, fun k => (T.pre k).le h⟩
theorem Tz.all {N : Nat} {es : List El} (T : Tz N es) : MZ N (transfer es) := by
  have := T.pre es.length
  rw [List.take_length] at this
  exact this
theorem Tz.pref {N : Nat} {es done rest : List El} (T : Tz N es) (e : es = done ++ rest) : MZ N (transfer done) := by
  have := T.pre done.length
  rw [e, List.take_left] at this
  exact this
theorem Tz.tk {N : Nat} {es : List El} (T : Tz N es) (j : Nat) : Tz N (es.take j) := ⟨fun e he => T.el e (List.mem_of_mem_take he), fun k => by rw [List.take_take]; exact T.pre _⟩
theorem Tz.dt {N : Nat} {es done rest : List El} (T : Tz N es) (e : es = done ++ rest) : det (transfer done) = 1 := det_transfer fun x hx => T.ok x (by rw [e]; exact List.mem_append_left _ hx)
theorem elM_zz {n : Nat} {e : El} (h : ElZ n e) : MZ (2 * n + 4) (elM e) := by
  have z0 : zb (0 : Rat) = 2 := zb0
  have z1 : zb (1 : Rat) = 2 := by decide +kernel
  cases e with
  | gap g =>
    have h : zb g ≤ n := h
    exact ⟨⟨by show zb (1 : Rat) ≤ _; omega, by show zb g ≤ _; omega, by show zb (0 : Rat) ≤ _; omega⟩, by show zb (1 : Rat) ≤ _; omega, by show zb (0 : Rat) ≤ _; omega, by show zb (0 : Rat) ≤ _; omega⟩
  | lens p c =>
    obtain ⟨h1, h2⟩ := h
    have a := zb_mul p c
    have b := zb_neg p
    exact ⟨⟨by show zb (1 : Rat) ≤ _; omega, by show zb (0 : Rat) ≤ _; omega, by show zb (-p) ≤ _; omega⟩, by show zb (1 : Rat) ≤ _; omega, by show zb (0 : Rat) ≤ _; omega, by show zb (p * c) ≤ _; omega⟩
  | prism d =>
    have h : zb d ≤ n := h
    exact ⟨⟨by show zb (1 : Rat) ≤ _; omega, by show zb (0 : Rat) ≤ _; omega, by show zb (0 : Rat) ≤ _; omega⟩, by show zb (1 : Rat) ≤ _; omega, by show zb (0 : Rat) ≤ _; omega, by show zb d ≤ _; omega⟩
  | afocal m =>
    obtain ⟨h1, h2⟩ := h
    have a := zb_div 1 m
    exact ⟨⟨by show zb m ≤ _; omega, by show zb (0 : Rat) ≤ _; omega, by show zb (0 : Rat) ≤ _; omega⟩, by show zb (1 / m) ≤ _; omega, by show zb (0 : Rat) ≤ _; omega, by show zb (0 : Rat) ≤ _; omega⟩
  | stop lo hi => exact ⟨⟨by show zb (1 : Rat) ≤ _; omega, by show zb (0 : Rat) ≤ _; omega, by show zb (0 : Rat) ≤ _; omega⟩, by show zb (1 : Rat) ≤ _; omega, by show zb (0 : Rat) ≤ _; omega, by show zb (0 : Rat) ≤ _; omega⟩
section
variable {st : List Cell} {Q : Vl → List Cell → Prop}

theorem transfer_t {N : Nat} {es : List El} (T : Tz N es) (hN : N ≤ 100000) (h : Q (.d (mpD (transfer es))) st) : sp_ray_transfer [.d (.lst (es.map elD))] st Q := by
  unfold sp_ray_transfer
  refine ⟨rfl, ?_⟩
  refine each_inv (lk := none) elD (fun r m => ∃ done z, es = done ++ r ∧ m = ⟨[some (.d (.lst (es.map elD))), some (.d (mpD (transfer done))), z], st⟩) (fun _ _ _ => trivial) ?_ ?_ es _ ⟨[], none, rfl, rfl⟩
  · rintro x r _ K hK ⟨done, z, e1, rfl⟩
    have hm : x ∈ es := by
      rw [e1]
      exact List.mem_append_right _ List.mem_cons_self
    refine elmap_ok (n := N) (T.el x hm) (by omega) ?_
    refine compose_ok (n := 2 * N + 4) ((T.pref e1).le (by omega)) (elM_zz (T.el x hm)) (by omega) ?_
    refine hK _ ⟨done ++ [x], some (.d (elD x)), by rw [e1, List.append_assoc]; rfl, ?_⟩
    rw [transfer_append, transfer_one]
    rfl
  · rintro _ ⟨done, z, e1, rfl⟩
    rw [List.append_nil] at e1
    rw [← e1]
    exact PG.tk h
theorem hplanes_t {N : Nat} {es : List El} (T : Tz N es) (hN : N ≤ 100000) (hl : es.length ≤ 1000) (h : Q (.d (.lst ((planesOf 0 idM es).map ehD))) st) : sp_half_planes_of [.d (.lst (es.map elD))] st Q := by
  obtain ⟨res, hres⟩ : ∃ res, planesOf 0 idM es = res := ⟨_, rfl⟩
  rw [hres] at h
  unfold sp_half_planes_of
  refine ⟨rfl, lineN rfl, ?_⟩
  let S : List (Ed × Hp3) → Mp → Option Vl → Option Vl → M := fun acc m z3 z4 => ⟨[some (.d (.lst (es.map elD))), some (.d (.lst (acc.map ehD))), some (.d (mpD m)), z3, z4], st⟩
  refine enum_inv (fun k rest m => ∃ done acc z3 z4, es = done ++ rest ∧ k = done.length ∧ acc ++ planesOf done.length (transfer done) rest = res ∧ acc.length ≤ 2 * done.length ∧ m = S acc (transfer done) z3 z4) ?_ ?_ _ 0 _ ⟨[], [], none, none, rfl, rfl, hres, Nat.le_refl _, rfl⟩
  · rintro k e rest m K hK ⟨done, acc, z3, z4, e1, rfl, e3, hacc, rfl⟩
    have hj : done.length < es.length := by
      rw [e1, List.length_append, List.length_cons]
      omega
    have hm : e ∈ es := by
      rw [e1]
      exact List.mem_append_right _ List.mem_cons_self
    have hz2 := T.pref e1
    have dt := T.dt e1
    have el := edgesAt_len done.length e (transfer done)
    refine seq_to (S (acc ++ edgesAt done.length e (transfer done)) (transfer done) (some (.d (.int done.length))) (some (.d (elD e)))) (fun K2 hK2 => ?_) ?_
    · cases e with
      | gap g =>
        rw [show edgesAt done.length (.gap g) (transfer done) = [] from rfl, List.append_nil] at hK2
        exact ⟨s_gap, s_stop, str_ne ne_gs hK2⟩
      | lens g c =>
        rw [show edgesAt done.length (.lens g c) (transfer done) = [] from rfl, List.append_nil] at hK2
        exact ⟨s_lens, s_stop, str_ne ne_ls hK2⟩
      | prism g =>
        rw [show edgesAt done.length (.prism g) (transfer done) = [] from rfl, List.append_nil] at hK2
        exact ⟨s_prism, s_stop, str_ne ne_ps hK2⟩
      | afocal g =>
        rw [show edgesAt done.length (.afocal g) (transfer done) = [] from rfl, List.append_nil] at hK2
        exact ⟨s_afocal, s_stop, str_ne ne_as hK2⟩
      | stop lo hi =>
        refine ⟨s_stop, s_stop, str_eq ?_⟩
        have zz := T.el _ hm
        refine edges_ok (n := N) (nz_of_det dt) hz2 zz.1 zz.2 (by omega) ?_
        refine ⟨?_, ?_⟩
        · rw [List.length_map, List.length_map]
          refine Nat.le_of_lt (small_lt ?_)
          have el' : (lowE done.length lo (transfer done) ++ uppE done.length hi (transfer done)).length ≤ 2 := el
          omega
        rw [← List.map_append]
        exact hK2
    refine elmap_ok (n := N) (T.el e hm) (by omega) ?_
    refine compose_ok (n := 2 * N + 4) (hz2.le (by omega)) (elM_zz (T.el e hm)) (by omega) ?_
    refine hK _ ⟨done ++ [e], acc ++ edgesAt done.length e (transfer done), some (.d (.int done.length)), some (.d (elD e)), ?_, ?_, ?_, ?_, ?_⟩
    · rw [e1, List.append_assoc]
      rfl
    · rw [List.length_append, List.length_singleton]
    · rw [← e3, List.length_append, List.length_singleton, transfer_append, transfer_one, List.append_assoc]
      rfl
    · rw [List.length_append, List.length_append, List.length_singleton]
      omega
    · rw [transfer_append, transfer_one]
      rfl
  · rintro k m ⟨done, acc, z3, z4, e1, rfl, e3, hacc, rfl⟩
    rw [show planesOf done.length (transfer done) [] = [] from rfl, List.append_nil] at e3
    rw [← e3] at h
    exact PG.tk h
end
end PG

set_option maxRecDepth 100000
set_option maxHeartbeats 4000000

namespace PG
open PySem PySem.Spec PyProof.Rows L2 RT
section
variable {st : List Cell} {Q : Vl → List Cell → Prop}
theorem planesof_t {N : Nat} {es : List El} (T : Tz N es) (hN : N ≤ 100000) (hl : es.length ≤ 1000) (h : Q (.d (.lst (((planesOf 0 idM es).map (·.2)).map hpD))) st) : sp_planes_of [.d (.lst (es.map elD))] st Q := by
  unfold sp_planes_of
  refine ⟨rfl, ?_⟩
  have hpl := planesOf_len 0 idM es
  refine dlc_map ehD (fun x => hpD x.2) (xs := planesOf 0 idM es) (fun K2 h2 => hplanes_t T hN hl h2) (fun x _ C hC => ?_) (by omega) ?_
  · exact ⟨rfl, hC _⟩
  rw [List.map_map] at h
  exact PG.tk h
end
end PG

set_option maxRecDepth 100000
set_option maxHeartbeats 4000000

namespace PG
open PySem PySem.Spec PyProof.Rows L2 RT
theorem candN_z {hs : List Hp3} {n : Nat} (hd : ∀ g ∈ hs, Dir g) (hg : ∀ g ∈ hs, HZ n g) : ∀ c ∈ cands hs, zb c.1 ≤ 2 * n + 2 ∧ zb c.2 ≤ 2 * n + 2 := fun c hc => by
  have z0 : zb (0 : Rat) = 2 := zb0
  rcases List.mem_cons.mp hc with rfl | hc
  · exact ⟨by show zb (0 : Rat) ≤ _; omega, by show zb (0 : Rat) ≤ _; omega⟩
  · obtain ⟨g, hm, hc⟩ := List.mem_flatMap.mp hc
    have zg := hg g hm
    rcases List.mem_cons.mp hc with rfl | hc
    · have hpos : 0 < dotI g g := Rat.intCast_pos.mp (hd g hm).pos
      have d1 := dot_z zg zg
      have a := lgm zg.2.2 zg.1
      have b := lgm zg.2.2 zg.2.1
      have e1 := zb_divInt (n := g.r * g.p) (d := dotI g g) (by omega)
      have e2 := zb_divInt (n := g.r * g.q) (d := dotI g g) (by omega)
      exact ⟨by show zb (Rat.divInt (g.r * g.p) (dotI g g)) ≤ _; omega, by show zb (Rat.divInt (g.r * g.q) (dotI g g)) ≤ _; omega⟩
    · obtain ⟨k, hk, e⟩ := List.mem_filterMap.mp hc
      exact meet_zn zg (hg k hk) e
theorem pts_z {hs : List Hp3} {n : Nat} (hd : ∀ g ∈ hs, Dir g) (hg : ∀ g ∈ hs, HZ n g) : ∀ c ∈ pts hs, zb c.1 ≤ 2 * n + 2 ∧ zb c.2 ≤ 2 * n + 2 := fun c hc => candN_z hd hg c (List.mem_filter.mp hc).1
theorem sup_pt {p q s : Rat} {hs : List Hp3} (hd : ∀ g ∈ hs, Dir g) {x0 : Ray} (hx : Rg hs x0) (h : supF p q hs = some s) : ∃ c ∈ pts hs, lin2 p q c = s := by
  have hs' := sup_is (p := p) (q := q) hd hx
  rw [h] at hs'
  obtain ⟨_, x, hx', e⟩ := hs'
  exact top_at hd hx' e h
theorem inf_pt {p q s : Rat} {hs : List Hp3} (hd : ∀ g ∈ hs, Dir g) {x0 : Ray} (hx : Rg hs x0) (h : infF p q hs = some s) : ∃ c ∈ pts hs, lin2 p q c = s := by
  unfold infF at h
  cases e : supF (-p) (-q) hs with
  | none => rw [e] at h; cases h
  | some t =>
    rw [e] at h
    have h := Option.some.inj h
    obtain ⟨c, hc, ec⟩ := sup_pt hd hx e
    refine ⟨c, hc, ?_⟩
    have h : -t = s := h
    unfold lin2 at *
    grind
theorem near_pt {p q : Rat} {hs : List Hp3} (hd : ∀ g ∈ hs, Dir g) {x0 : Ray} (hx : Rg hs x0) : nearest (infF p q hs) (supF p q hs) = 0 ∨ ∃ c ∈ pts hs, lin2 p q c = nearest (infF p q hs) (supF p q hs) := by
  rcases nearest_or (infF p q hs) (supF p q hs) with h | h | h
  · exact .inr (inf_pt hd hx h)
  · exact .inr (sup_pt hd hx h)
  · exact .inl h
theorem midH_z {hs : List Hp3} {n : Nat} (hd : ∀ g ∈ hs, Dir g) (hg : ∀ g ∈ hs, HZ n g) {x0 : Ray} (hx : Rg hs x0) : zb (midH hs) ≤ 2 * n + 2 := by
  have z0 : zb (0 : Rat) = 2 := zb0
  rcases near_pt (p := 1) (q := 0) hd hx with h | ⟨c, hc, e⟩
  · show zb (nearest (infF 1 0 hs) (supF 1 0 hs)) ≤ _
    rw [h]
    omega
  · show zb (nearest (infF 1 0 hs) (supF 1 0 hs)) ≤ _
    rw [← e, lin10]
    exact (pts_z hd hg c hc).1
theorem atH_z {hs : List Hp3} {n m : Nat} {h : Rat} (hg : ∀ g ∈ hs, HZ n g) (hh : zb h ≤ m) (hn : n ≤ m + 4) : ∀ g ∈ atH hs h, HZ (m + 4) g := fun g hm => by
  have z1 : zb (1 : Rat) = 2 := by decide +kernel
  have z1' : zb (-1 : Rat) = 2 := by decide +kernel
  have z0 : zb (0 : Rat) = 2 := zb0
  have zn := zb_neg h
  unfold atH at hm
  rcases List.mem_append.mp hm with hm | hm
  · obtain ⟨b, c, d⟩ := hg g hm
    exact ⟨by omega, by omega, by omega⟩
  · simp only [List.mem_cons, List.not_mem_nil, or_false] at hm
    rcases hm with rfl | rfl
    · exact mkH_z (by omega)
    · exact mkH_z (by omega)
theorem midS_z {hs : List Hp3} {n : Nat} (hd : ∀ g ∈ hs, Dir g) (hg : ∀ g ∈ hs, HZ n g) {x0 : Ray} (hx : Rg hs x0) : zb (midS hs) ≤ 4 * n + 14 := by
  have z0 : zb (0 : Rat) = 2 := zb0
  have zh := midH_z hd hg hx
  obtain ⟨y, hy⟩ := midH_in hd hx
  have hx' : Rg (atH hs (midH hs)) (midH hs, y) := atH_rg.mpr ⟨hy, rfl⟩
  have hz := atH_z hg zh (by omega)
  rcases near_pt (p := 0) (q := 1) (atH_dir (h := midH hs) hd) hx' with h | ⟨c, hc, e⟩
  · show zb (nearest (infF 0 1 (atH hs (midH hs))) (supF 0 1 (atH hs (midH hs)))) ≤ _
    rw [h]
    omega
  · show zb (nearest (infF 0 1 (atH hs (midH hs))) (supF 0 1 (atH hs (midH hs)))) ≤ _
    rw [← e, lin01]
    have := (pts_z (atH_dir (h := midH hs) hd) hz c hc).2
    omega
section
variable {st : List Cell} {Q : Vl → List Cell → Prop}
end
end PG

set_option maxRecDepth 100000
set_option maxHeartbeats 4000000

namespace PG
open PySem PySem.Spec PyProof.Rows L2 RT
section
variable {st : List Cell} {Q : Vl → List Cell → Prop}
end
end PG

set_option maxRecDepth 100000
set_option maxHeartbeats 4000000

namespace PG
open PySem PySem.Spec PyProof.Rows L2 RT
abbrev CE := Ed × Rat × Mp
structure CeIn (N : Nat) (es : List El) (x : CE) : Prop where
  lt : x.1.1 < es.length
  mp : x.2.2 = transfer (es.take x.1.1)
  mz : MZ N x.2.2
  hz : zb x.2.1 ≤ N

section
variable {st : List Cell} {Q : Vl → List Cell → Prop}
end
end PG

set_option maxRecDepth 100000
set_option maxHeartbeats 4000000

namespace PG
open PySem PySem.Spec PyProof.Rows L2 RT
theorem lg_le {n k : Nat} (h : n ≤ 2 ^ k) : n.log2 ≤ k := by
  by_cases h0 : n = 0
  · rw [h0]; exact Nat.zero_le _
  · have := (Nat.log2_lt h0 (k := k + 1)).mpr (by rw [Nat.pow_succ]; have := Nat.pow_pos (a := 2) (n := k) (by decide); omega)
    omega
theorem planes_dir {es : List El} (he : ∀ e ∈ es, ElOk e) : ∀ x ∈ planesOf 0 idM es, Dir x.2 ∧ gcd3 x.2.p x.2.q x.2.r = 1 := fun x hx => by
  obtain ⟨i, _, lo, hi', hs, hx⟩ := planes_mem es 0 idM x hx
  have dt : det (transfer (es.take i)) = 1 := det_transfer fun x hx => he x (List.mem_of_mem_take hx)
  have nz := nz_of_det dt
  rw [comp_id] at hx
  generalize transfer (es.take i) = t at *
  cases hu : x.1.2 with
  | true =>
    rw [hu, if_pos rfl] at hx
    obtain ⟨u, _, hx⟩ := hx
    rw [hx]
    exact ⟨mkH_dir nz, mkH_prim nz⟩
  | false =>
    rw [hu, if_neg (by decide)] at hx
    obtain ⟨u, _, hx⟩ := hx
    rw [hx]
    have nz' : ¬ (-t.a = 0 ∧ -t.b = 0) := fun z => nz ⟨by grind, by grind⟩
    exact ⟨mkH_dir nz', mkH_prim nz'⟩
section
variable {ds : List Int} {i k : Nat} {st : List Cell} {Q : Vl → List Cell → Prop}
end
section
variable {st : List Cell} {Q : Vl → List Cell → Prop}
end
end PG

set_option maxRecDepth 100000
set_option maxHeartbeats 4000000

namespace PG
open PySem PySem.Spec PyProof.Rows L2 RT
end PG

set_option maxRecDepth 100000
set_option maxHeartbeats 4000000

namespace PG
namespace B
open PySem PySem.Spec PyProof.Rows L2 RT
def Pg (g : Hp3) : Prop := Dir g ∧ gcd3 g.p g.q g.r = 1 ∧ HZ 1900 g
theorem Pg.z {g : Hp3} (h : Pg g) : HZ 1900 g := h.2.2
theorem oppH_pg {g : Hp3} (h : Pg g) : Pg (oppH g) := by
  obtain ⟨d, e, h1, h2, h3⟩ := h
  unfold oppH
  refine ⟨fun ⟨x, y⟩ => d ⟨by dsimp only at x; omega, by dsimp only at y; omega⟩, by dsimp only; rw [gcd3_neg]; exact e, ?_, ?_, ?_⟩
  · show (-g.p).natAbs.log2 + 2 ≤ 1900
    rw [Int.natAbs_neg]; exact h1
  · show (-g.q).natAbs.log2 + 2 ≤ 1900
    rw [Int.natAbs_neg]; exact h2
  · show (-g.r).natAbs.log2 + 2 ≤ 1900
    rw [Int.natAbs_neg]; exact h3
theorem pg_mul {a b : Int} (h1 : a.natAbs.log2 ≤ 2000) (h2 : b.natAbs.log2 ≤ 2000) : MulOk a b := mulok (zm (by omega))
theorem Pg.ab {g : Hp3} (h : Pg g) : g.p.natAbs.log2 ≤ 2000 ∧ g.q.natAbs.log2 ≤ 2000 ∧ g.r.natAbs.log2 ≤ 2000 ∧ 0 < n1 g ∧ (n1 g).natAbs.log2 ≤ 2000 := by
  have := n1_pos h.1
  have := lgn1 h.z
  obtain ⟨_, _, a, b, c⟩ := h
  omega
theorem reach_z {g : Hp3} (hg : Pg g) : zb (Rat.divInt g.r (n1 g)) ≤ 2002 := by
  obtain ⟨_, _, c, p1, n⟩ := hg.ab
  have := zb_divInt (n := g.r) (d := n1 g) (by omega)
  omega
theorem ep1 : Pg ⟨1, 0, -1⟩ := ⟨fun ⟨a, _⟩ => absurd a (by decide), by decide, by decide, by decide, by decide⟩
theorem ep2 : Pg ⟨-1, 0, 0⟩ := ⟨fun ⟨a, _⟩ => absurd a (by decide), by decide, by decide, by decide, by decide⟩
theorem int_z {x : Int} {k : Nat} (h : x.natAbs.log2 + 2 ≤ k) : zb (x : Rat) ≤ k := Nat.le_trans (zb_int x) h
theorem uAB_z {n : Nat} {g : Hp3} (hd : Dir g) (h : HZ n g) : zb (uA g : Rat) ≤ n ∧ zb (uB g : Rat) ≤ n := by
  obtain ⟨u1, u2, _, _, _⟩ := uAB_le hd
  have u1 := log2_mono u1
  have u2 := log2_mono u2
  obtain ⟨a, b, c⟩ := h
  exact ⟨int_z (by omega), int_z (by omega)⟩
theorem prim_eq {g k : Hp3} (hg : Pg g) (hk : Pg k) {m n : Int} (hm : 0 < m) (hn : 0 < n) (h1 : m * g.p = n * k.p) (h2 : m * g.q = n * k.q) (h3 : m * g.r = n * k.r) : g = k := by
  have e : m = n := by
    have a : ∀ {x y : Hp3} {u v : Int}, 0 < u → 0 < v → gcd3 x.p x.q x.r = 1 → u * x.p = v * y.p → u * x.q = v * y.q → u * x.r = v * y.r → v ∣ u := fun {x y u v} hu hv hx e1 e2 e3 => by
      have d1 : v ∣ u * x.p := ⟨_, e1⟩
      have d2 : v ∣ u * x.q := ⟨_, e2⟩
      have d3 : v ∣ u * x.r := ⟨_, e3⟩
      have c1 : v.natAbs ∣ u.natAbs * Int.gcd x.p x.q := by
        have a1 : v.natAbs ∣ u.natAbs * x.p.natAbs := by rw [← Int.natAbs_mul]; exact Int.natAbs_dvd_natAbs.mpr d1
        have a2 : v.natAbs ∣ u.natAbs * x.q.natAbs := by rw [← Int.natAbs_mul]; exact Int.natAbs_dvd_natAbs.mpr d2
        have := Nat.dvd_gcd a1 a2
        rw [Nat.gcd_mul_left] at this
        exact this
      have c2 : v.natAbs ∣ u.natAbs * x.r.natAbs := by rw [← Int.natAbs_mul]; exact Int.natAbs_dvd_natAbs.mpr d3
      have c3 := Nat.dvd_gcd c1 c2
      rw [Nat.gcd_mul_left] at c3
      have : Nat.gcd (Int.gcd x.p x.q) x.r.natAbs = 1 := by
        unfold gcd3 at hx
        have hx' : Int.gcd (Int.gcd x.p x.q : Int) x.r = 1 := by omega
        exact hx'
      rw [this, Nat.mul_one] at c3
      exact Int.natAbs_dvd_natAbs.mp c3
    have d1 := a hm hn hg.2.1 h1 h2 h3
    have d2 := a hn hm hk.2.1 h1.symm h2.symm h3.symm
    exact Int.dvd_antisymm (by omega) (by omega) d2 d1
  subst e
  have f : ∀ {x y : Int}, m * x = m * y → x = y := fun h => Int.eq_of_mul_eq_mul_left (by omega) h
  obtain ⟨gp, gq, gr⟩ := g
  obtain ⟨kp, kq, kr⟩ := k
  have e1 : gp = kp := f h1
  have e2 : gq = kq := f h2
  have e3 : gr = kr := f h3
  rw [e1, e2, e3]
theorem bef_total {g k : Hp3} (hg : Pg g) (hk : Pg k) (hne : g ≠ k) : befK g k = true ∨ befK k g = true := by
  have da := dt_anti g k
  by_cases c : hfB g = hfB k
  · by_cases c0 : dt g k = 0
    · rw [bef_reach c c0, bef_reach c.symm (by omega), decide_eq_true_iff, decide_eq_true_iff]
      obtain ⟨e1, e2⟩ := same_dir hg.1 hk.1 c c0
      have pg := n1_pos hg.1
      have pk := n1_pos hk.1
      refine Classical.byContradiction fun hno => hne (prim_eq hg hk pk pg e1 e2 ?_)
      have a := Int.mul_comm g.r (n1 k)
      have b := Int.mul_comm k.r (n1 g)
      omega
    · rw [bef_turn c c0, bef_turn c.symm (by omega), decide_eq_true_iff, decide_eq_true_iff]
      omega
  · rw [bef_half c, bef_half (fun z => c z.symm)]
    cases e : hfB g <;> cases e' : hfB k <;> simp_all
theorem srt_place {g : Hp3} (hg : Pg g) : ∀ {L : List Hp3}, Srt L → (∀ y ∈ L, Pg y) → g ∉ L → Srt (L.take (L.filter fun y => befK y g).length ++ [g] ++ L.drop (L.filter fun y => befK y g).length)
  | [], _, _, _ => List.pairwise_singleton ..
  | a :: r, s, hp, hn => by
    obtain ⟨p1, q1⟩ := List.pairwise_cons.mp s
    have pa := hp a List.mem_cons_self
    have hpr := fun y hy => hp y (List.mem_cons_of_mem a hy)
    have hne : g ≠ a := fun e => hn (by rw [e]; exact List.mem_cons_self)
    have hnr : g ∉ r := fun e => hn (List.mem_cons_of_mem _ e)
    cases c : befK a g with
    | true =>
      rw [List.filter_cons, if_pos c, List.length_cons, List.take_succ_cons, List.drop_succ_cons]
      refine List.pairwise_cons.mpr ⟨fun y hy => ?_, srt_place hg q1 hpr hnr⟩
      have hy' : y ∈ insK r g := by
        unfold insK
        rw [if_neg hnr]
        exact hy
      rcases insK_mem.mp hy' with h | h
      · exact p1 y h
      · rw [h]
        exact c
    | false =>
      have ga : befK g a = true := by
        rcases bef_total hg pa hne with h | h
        · exact h
        · rw [h] at c
          cases c
      have f0 : ((a :: r).filter fun y => befK y g) = [] := by
        rw [List.filter_eq_nil_iff]
        intro y hy hb
        rcases List.mem_cons.mp hy with e | e
        · rw [e, c] at hb
          cases hb
        · have := bef_asymm (bef_trans hg.1 pa.1 (hpr y e).1 ga (p1 y e))
          rw [hb] at this
          cases this
      rw [f0]
      refine List.pairwise_cons.mpr ⟨fun y hy => ?_, s⟩
      rcases List.mem_cons.mp hy with e | e
      · rw [e]
        exact ga
      · exact bef_trans hg.1 pa.1 (hpr y e).1 ga (p1 y e)
theorem insK_srt {L : List Hp3} {g : Hp3} (hg : Pg g) (s : Srt L) (hp : ∀ y ∈ L, Pg y) : Srt (insK L g) := by
  unfold insK
  by_cases c : g ∈ L
  · rw [if_pos c]
    exact s
  · rw [if_neg c]
    exact srt_place hg s hp c
theorem foldl_ins : ∀ {r L : List Hp3}, (∀ g ∈ r, Pg g) → (∀ g ∈ L, Pg g) → Srt L → Srt (r.foldl insK L) ∧ (∀ x, x ∈ r.foldl insK L ↔ x ∈ L ∨ x ∈ r) ∧ (r.foldl insK L).length ≤ L.length + r.length
  | [], L, _, _, s => ⟨s, fun x => by simp, Nat.le_refl _⟩
  | g :: r, L, hr, hL, s => by
    have hg := hr g List.mem_cons_self
    obtain ⟨s1, m1, l1⟩ := foldl_ins (r := r) (L := insK L g) (fun y hy => hr y (List.mem_cons_of_mem _ hy)) (fun y hy => by
      rcases insK_mem.mp hy with h | h
      · exact hL y h
      · rw [h]
        exact hg) (insK_srt hg s hL)
    refine ⟨s1, fun x => ?_, ?_⟩
    · rw [List.foldl_cons, m1, insK_mem, List.mem_cons, or_assoc]
    · rw [List.foldl_cons, List.length_cons]
      have := insK_len L g
      omega
theorem inOrd_spec {L : List Hp3} (h : ∀ g ∈ L, Pg g) : Srt (inOrd L) ∧ (∀ x, x ∈ inOrd L ↔ x ∈ L) ∧ (inOrd L).length ≤ L.length := by
  obtain ⟨a, b, c⟩ := foldl_ins (r := L) (L := []) h (fun _ h => nomatch h) List.Pairwise.nil
  unfold inOrd
  exact ⟨a, fun x => by
    have := b x
    simpa using this, by simpa using c⟩
section
variable {st : List Cell} {Q : Vl → List Cell → Prop} {g k : Hp3}
theorem cross_ok (hg : Pg g) (hk : Pg k) (h : Q (.d (.int (dt g k))) st) : sp_cross [.d (hpD g), .d (hpD k)] st Q := by
  obtain ⟨a1, b1, c1, _⟩ := hg.ab
  obtain ⟨a2, b2, c2, _⟩ := hk.ab
  unfold sp_cross
  exact ⟨rfl, pg_mul a1 b2, pg_mul b1 a2, trivial, tk h⟩
theorem reach_ok (hg : Pg g) (h : Q (.d (fr (Rat.divInt g.r (n1 g)))) st) : sp_reach [.d (hpD g)] st Q := by
  have := hg.ab
  unfold sp_reach
  exact ⟨rfl, fraction_ok (d := n1 g) (by omega) (tk h)⟩
theorem reach_lt (hg : Pg g) (hk : Pg k) : decide (sgn (Rat.divInt g.r (n1 g) - Rat.divInt k.r (n1 k)) < 0) = decide (g.r * n1 k < k.r * n1 g) := by
  obtain ⟨_, _, _, p1, _⟩ := hg.ab
  obtain ⟨_, _, _, p2, _⟩ := hk.ab
  refine decide_eq_decide.mpr ?_
  rw [sgn_lt0, dlt p1 p2]
theorem before_ok (hg : Pg g) (hk : Pg k) (h : Q (.d (.bl (befK g k))) st) : sp_comes_before [.d (hpD g), .d (hpD k)] st Q := by
  unfold sp_comes_before
  refine ⟨rfl, ?_⟩
  let S : Option Vl → M := fun z => ⟨[some (.d (hpD g)), some (.d (hpD k)), z], st⟩
  have cnd : ∀ K : Bool → M → Prop, K (!(hfB g == hfB k)) (S none) → dTest (dOp RT.rNe (dCall PG.sp_in_first_half [] (dCons (dVar 0) dNil)) (dCall PG.sp_in_first_half [] (dCons (dVar 1) dNil))) (S none) K := fun K hK => by
    refine hf_ok ?_
    refine hf_ok ⟨rfl, rfl, ?_⟩
    show K (!eqD (.bl (hfB g)) (.bl (hfB k))) _
    rw [eqD_bl]
    exact hK
  by_cases c : hfB g = hfB k
  · have e : (hfB g == hfB k) = true := by rw [c]; exact beq_self_eq_true _
    rw [e] at cnd
    refine guard_st (S none) (fun K hK => cnd K hK) ?_
    refine seq_to (S (some (.d (.int (dt g k))))) (fun K hK => cross_ok hg hk hK) ?_
    by_cases c0 : dt g k = 0
    · rw [bef_reach c c0] at h
      refine guard_st (S (some (.d (.int (dt g k))))) (fun K hK => ⟨rfl, rfl, ?_⟩) ?_
      · show K (!eqD (.int (dt g k)) (.int 0)) _
        rw [eqD_int, decide_eq_true c0]
        exact hK
      have z1 := reach_z hg
      have z2 := reach_z hk
      refine reach_ok hg ?_
      refine reach_ok hk ?_
      refine compare_ok (zm (by omega)) ⟨trivial, ?_⟩
      rw [← reach_lt hg hk] at h
      exact tk h
    · rw [bef_turn c c0] at h
      refine ifs_t (S (some (.d (.int (dt g k))))) (fun K hK => ⟨rfl, rfl, ?_⟩) ⟨trivial, tk h⟩
      show K (!eqD (.int (dt g k)) (.int 0)) _
      rw [eqD_int, decide_eq_false c0]
      exact hK
  · have e : (hfB g == hfB k) = false := by simpa using c
    rw [e] at cnd
    rw [bef_half c] at h
    exact ifs_t (S none) (fun K hK => cnd K hK) (hf_ok (tk h))
theorem inorder_ok {L0 : List Hp3} (hp : ∀ g ∈ L0, Pg g) (hl : L0.length ≤ 10000) (h : Q (.d (.lst ((inOrd L0).map hpD))) st) : sp_in_order [.d (.lst (L0.map hpD))] st Q := by
  unfold sp_in_order
  refine ⟨rfl, ?_⟩
  let S : List Hp3 → Option Vl → Option Vl → M := fun L z2 z3 => ⟨[some (.d (.lst (L0.map hpD))), some (.c st.length), z2, z3, none], st ++ [Cell.lst (L.map hpD)]⟩
  refine seq_to (S [] none none) (fun K hK => ⟨lineN rfl, hK⟩) ?_
  refine seq_mid (fun m => ∃ z2 z3, m = S (inOrd L0) z2 z3) (fun K hK => ?_) ?_
  · refine each_inv (lk := none) hpD (fun r m => ∃ L z2 z3, (∀ g ∈ r, Pg g) ∧ (∀ g ∈ L, Pg g) ∧ L.length + r.length ≤ 10000 ∧ r.foldl insK L = inOrd L0 ∧ m = S L z2 z3) (fun _ _ _ => trivial) ?_ ?_ L0 _ ⟨[], none, none, hp, (fun g hg => nomatch hg), by simpa using hl, rfl, rfl⟩
    · rintro g r _ K2 hK2 ⟨L, z2, z3, hr, hL, hlen, he, rfl⟩
      rw [List.length_cons] at hlen
      have hg := hr g List.mem_cons_self
      have hr' := fun y hy => hr y (List.mem_cons_of_mem g hy)
      rw [List.foldl_cons] at he
      have hL' : ∀ y ∈ insK L g, Pg y := fun y hy => by
        rcases insK_mem.mp hy with h | h
        · exact hL y h
        · rw [h]
          exact hg
      have hlen' := insK_len L g
      have cnd : ∀ K : Bool → M → Prop, K (!decide (g ∈ L)) (S L (some (.d (hpD g))) z3) → dTest (dOp (rIn true) (dVar 2) (dVar 1)) (S L (some (.d (hpD g))) z3) K := fun K hK => by
        refine onV_c (getElem_last _ _) ⟨sh_ok sh_hp, sh_hps, ?_⟩
        show K (!((L.map hpD).any fun z => eqD z (hpD g))) _
        rw [any_hp]
        exact hK
      by_cases c : g ∈ L
      · rw [decide_eq_true c] at cnd
        have ei : insK L g = L := by unfold insK; rw [if_pos c]
        rw [ei] at he
        refine guard_end (fun m => m = S L (some (.d (hpD g))) z3) (fun K hK => cnd K (hK _ rfl)) ?_
        rintro _ rfl
        exact hK2 _ ⟨L, _, _, hr', hL, by omega, he, rfl⟩
      · rw [decide_eq_false c] at cnd
        refine ifs_t (S L (some (.d (hpD g))) z3) (fun K hK => cnd K hK) ?_
        obtain ⟨j, ej⟩ : ∃ j, (L.filter fun y => befK y g).length = j := ⟨_, rfl⟩
        have hj : j ≤ L.length := by
          rw [← ej]
          exact List.length_filter_le _ _
        have ei : insK L g = L.take j ++ [g] ++ L.drop j := by unfold insK; rw [if_neg c, ej]
        refine seq_to (S L (some (.d (hpD g))) (some (.d (.int j)))) (fun K hK => ?_) ?_
        · show onC (st ++ [Cell.lst (L.map hpD)]) st.length _
          refine onC_mk (getElem_last _ _) ?_
          refine filt_ownM (f := hpD) (p := fun y => befK y g) (i := 4) ?_ ?_ L [] (fun y hy P hP => ?_) ?_ ?_
          · exact getElem_last _ _
          · exact Nat.lt_of_sub_eq_succ rfl
          · exact before_ok (hL y hy) hg hP
          · rw [List.length_nil]
            omega
          · rw [List.nil_append]
            show K ⟨[_, _, _, some (.d (.int (((L.filter fun y => befK y g).map hpD).length : Int))), _], _⟩
            rw [List.length_map, ej]
            exact hK
        · refine ⟨⟨_, getElem_last _ _⟩, onC_mk (getElem_last _ _) ⟨?_, ?_, ?_, ?_⟩⟩
          · rw [List.length_map]
            show L.length < 16777216
            omega
          · omega
          · have : (j : Int) ≤ 10000 := by omega
            exact Int.lt_of_le_of_lt this (by decide)
          · refine hK2 _ ⟨insK L g, _, _, hr', hL', by omega, he, congrArg (M.mk _) ?_⟩
            show (st ++ [_]).set st.length _ = st ++ [_]
            rw [set_last, ei, List.map_append, List.map_append, List.map_take, List.map_drop, Int.toNat_natCast]
            rfl
    · rintro _ ⟨L, z2, z3, _, _, _, he, rfl⟩
      have he' : L = inOrd L0 := he
      exact hK _ ⟨z2, z3, by rw [he']⟩
  rintro _ ⟨z2, z3, rfl⟩
  refine Eq.mp (if_neg (Nat.lt_irrefl _)).symm (onC_mk (getElem_last _ _) ?_)
  show Q _ ((st ++ [_]).take st.length)
  rw [List.take_left]
  exact h
theorem needed_ok {hs : List Hp3} (hp : ∀ g ∈ hs, Pg g) (hl : hs.length ≤ 45) (h : Q (.d (.lst ((neededF hs).map hpD))) st) : sp_needed [.d (.lst (hs.map hpD))] st Q := by
  obtain ⟨i1, i2, i3⟩ := inOrd_spec hp
  unfold neededF at h
  obtain ⟨L, eL⟩ : ∃ L, inOrd hs = L := ⟨_, rfl⟩
  rw [eL] at i1 i2 i3 h
  have hpL : ∀ g ∈ L, Pg g := fun g hg => hp g ((i2 g).mp hg)
  unfold sp_needed
  refine ⟨rfl, ?_⟩
  let S : List Hp3 → Option Vl → Option Vl → M := fun acc z3 z4 => ⟨[some (.d (.lst (hs.map hpD))), some (.d (.lst (L.map hpD))), some (.c st.length), z3, z4, none], st ++ [Cell.lst (acc.map hpD)]⟩
  refine seq_to ⟨[some (.d (.lst (hs.map hpD))), some (.d (.lst (L.map hpD))), none, none, none, none], st⟩ (fun K hK => inorder_ok hp (by omega) (by rw [eL]; exact hK)) ?_
  refine seq_to (S [] none none) (fun K hK => ⟨lineN rfl, hK⟩) ?_
  let f : Hp3 → Bool := fun g => !impB (L.filter fun k => !decide (k = g)) g
  have h : Q (.d (.lst ((L.filter f).map hpD))) st := h
  refine seq_mid (fun m => ∃ z3 z4, m = S (L.filter f) z3 z4) (fun K hK => ?_) ?_
  · refine each_inv (lk := none) hpD (fun r m => ∃ done z3 z4, done ++ r = L ∧ m = S (done.filter f) z3 z4) (fun _ _ _ => trivial) ?_ ?_ L _ ⟨[], none, none, rfl, rfl⟩
    · rintro g r _ K2 hK2 ⟨done, z3, z4, he, rfl⟩
      have hm : g ∈ L := by rw [← he]; exact List.mem_append_right _ List.mem_cons_self
      have hdl : done.length + (r.length + 1) = L.length := by rw [← he, List.length_append, List.length_cons]
      have dl : (done.filter f).length ≤ 45 := Nat.le_trans (List.length_filter_le _ _) (by omega)
      obtain ⟨O, eO⟩ : ∃ O, (L.filter fun k => !decide (k = g)) = O := ⟨_, rfl⟩
      have hO : ∀ k ∈ O, k ∈ L := fun k hk => by
        rw [← eO] at hk
        exact (List.mem_filter.mp hk).1
      have hOl : O.length ≤ 45 := by
        rw [← eO]
        exact Nat.le_trans (List.length_filter_le _ _) (by omega)
      refine seq_to (S (done.filter f) (some (.d (hpD g))) (some (.d (.lst (O.map hpD))))) (fun K hK => ?_) ?_
      · refine filt_go (f := hpD) (p := fun k : Hp3 => !decide (k = g)) (by show 5 < 6; decide) ?_ L [] (by rw [List.length_nil]; omega) ?_
        · intro a P hP
          refine ⟨sh_ok sh_hp, sh_ok sh_hp, ?_⟩
          show P (!eqD (hpD a) (hpD g)) _
          rw [eqD_hp]
          exact hP
        · rw [List.nil_append, eO]
          exact hK
      have fin := hK2 (S ((done ++ [g]).filter f) (some (.d (hpD g))) (some (.d (.lst (O.map hpD))))) ⟨done ++ [g], _, _, by rw [List.append_assoc]; exact he, rfl⟩
      rw [List.filter_append] at fin
      have ef : f g = !impB O g := by rw [← eO]
      have cnd : ∀ K : Bool → M → Prop, K (!impB O g) (S (done.filter f) (some (.d (hpD g))) (some (.d (.lst (O.map hpD))))) → dNot (dTru (dCall PG.sp_is_implied [] (dCons (dVar 4) (dCons (dVar 3) dNil)))) (S (done.filter f) (some (.d (hpD g))) (some (.d (.lst (O.map hpD))))) K := fun K hK => by
        exact PG.implied_ok (n := 1900) (fun k hk => (hpL k (hO k hk)).1) (fun k hk => (hpL k (hO k hk)).z) (hpL g hm).z (by decide) hOl hK
      cases ci : impB O g with
      | true =>
        rw [ci] at cnd ef
        rw [List.filter_cons, if_neg (by rw [ef]; decide)] at fin
        rw [List.filter_nil, List.append_nil] at fin
        exact guard_end (fun m => m = S (done.filter f) (some (.d (hpD g))) (some (.d (.lst (O.map hpD))))) (fun K hK => cnd K (hK _ rfl)) (by rintro _ rfl; exact fin)
      | false =>
        rw [ci] at cnd ef
        rw [List.filter_cons, if_pos (by rw [ef]; rfl), List.filter_nil] at fin
        refine ifs_t (S (done.filter f) (some (.d (hpD g))) (some (.d (.lst (O.map hpD))))) cnd ?_
        refine append_st (k := st.length) (te := dVar 3) (xs := (done.filter f).map hpD) (hpD g) ?_ ?_ (fun C hC => hC) (small_lt (by rw [List.length_map]; omega)) ?_
        · rfl
        · exact getElem_last _ _
        · dsimp only
          show K2 ⟨_, (st ++ [_]).set st.length _⟩
          rw [set_last]
          dsimp only [S] at fin
          rw [List.map_append] at fin
          exact fin
    · rintro _ ⟨done, z3, z4, he, rfl⟩
      rw [List.append_nil] at he
      rw [he]
      exact hK _ ⟨_, _, rfl⟩
  rintro _ ⟨z3, z4, rfl⟩
  refine Eq.mp (if_neg (Nat.lt_irrefl _)).symm (onC_mk (getElem_last _ _) ?_)
  show Q _ ((st ++ [_]).take st.length)
  rw [List.take_left]
  exact h
theorem carr_mem {g : Hp3} (h : Pg g) : carr g = g ∨ carr g = oppH g := by
  have hp : ∀ k ∈ [g, oppH g], Pg k := fun k hk => by
    simp at hk
    rcases hk with rfl | rfl
    · exact h
    · exact oppH_pg h
  obtain ⟨_, i2, _⟩ := inOrd_spec hp
  unfold carr
  cases e : inOrd [g, oppH g] with
  | nil => exact .inl rfl
  | cons a r =>
    have : a ∈ inOrd [g, oppH g] := by rw [e]; exact List.mem_cons_self
    have := (i2 a).mp this
    simp at this
    exact this
theorem carrier_ok {hs : List Hp3} {g : Hp3} (hp : ∀ g ∈ hs, Pg g) (hl : hs.length ≤ 45) (hg : lineF hs = some g) (h : Q (.d (hpD (carr g))) st) : sp_carrier [.d (.lst (hs.map hpD))] st Q := by
  have pg := hp g (line_mem hg)
  have hp2 : ∀ k ∈ [g, oppH g], Pg k := fun k hk => by
    simp at hk
    rcases hk with rfl | rfl
    · exact pg
    · exact oppH_pg pg
  obtain ⟨_, i2, _⟩ := inOrd_spec hp2
  unfold sp_carrier
  refine ⟨rfl, ?_⟩
  refine seq_to ⟨[some (.d (.lst (hs.map hpD))), some (.d (hpD g))], st⟩ (fun K hK => line_ok (n := 1900) (fun k hk => (hp k hk).1) (fun k hk => (hp k hk).z) (by decide) (by omega) (by rw [hg]; exact hK)) ?_
  refine opp_ok ?_
  refine ⟨slt rfl, ?_⟩
  refine inorder_ok (L0 := [g, oppH g]) hp2 (Nat.le_of_ble_eq_true rfl) ?_
  unfold carr at h
  cases e : inOrd [g, oppH g] with
  | nil =>
    have := (i2 g).mpr List.mem_cons_self
    rw [e] at this
    exact nomatch this
  | cons a r =>
    rw [e] at h
    have at0 : atI ((a :: r).map hpD) 0 = some (hpD a) := atI_map (f := hpD) (k := 0) rfl
    exact rIx_mk at0 (tk h)
theorem lineplanes_ok {hs : List Hp3} {g : Hp3} (hp : ∀ g ∈ hs, Pg g) (hl : hs.length ≤ 45) (hg : lineF hs = some g) (hE : ∀ k ∈ lineR hs (carr g), Pg k) (h : Q (.d (.lst ((inOrd (lineR hs (carr g))).map hpD))) st) : sp_line_planes [.d (.lst (hs.map hpD))] st Q := by
  have pg := hp g (line_mem hg)
  have pc : Pg (carr g) := by
    rcases carr_mem pg with e | e
    · rw [e]; exact pg
    · rw [e]; exact oppH_pg pg
  unfold sp_line_planes
  refine ⟨rfl, ?_⟩
  obtain ⟨c, ec⟩ : ∃ c, carr g = c := ⟨_, rfl⟩
  rw [ec] at pc hE h
  obtain ⟨u1, u2, u3, _, _⟩ := uAB_le pc.1
  have u1 := log2_mono u1
  have u2 := log2_mono u2
  have g0 := gcd2_pos pc.1
  obtain ⟨cz1, cz2, cz3⟩ := pc.2.2
  let S : Option Vl → Option Vl → Option Vl → Option Vl → Option Vl → List Cell → M := fun z2 z3 z4 z5 z6 s => ⟨[some (.d (.lst (hs.map hpD))), some (.d (hpD c)), z2, z3, z4, z5, z6], s⟩
  refine seq_to (S none none none none none st) (fun K hK => carrier_ok hp hl hg (by rw [ec]; exact hK)) ?_
  let s2 : Option Vl := some (.d (.int (gcd2 c)))
  refine seq_to (S s2 none none none none st) (fun K hK => gcd_ok hK) ?_
  refine seq_to (S s2 (some (.c st.length)) none none none (st ++ [Cell.lst ([c, oppH c].map hpD)])) (fun K hK => opp_ok ⟨slt rfl, hK⟩) ?_
  refine seq_mid (fun m => ∃ (z4 z5 z6 : Option Dt), m = S s2 (some (.c st.length)) (nv z4) (nv z5) (nv z6) (st ++ [Cell.lst ((lineR hs c).map hpD)])) (fun K hK => ?_) ?_
  · refine ⟨slt rfl, ?_⟩
    show dLoop (.nm 4) _ _ none _ ([(1 : Int), -1].map .int) _
    refine each_inv (lk := none) Dt.int (fun r m => ∃ (acc : List Hp3) (z4 z5 z6 : Option Dt), acc.length + r.length ≤ 4 ∧ (∀ t ∈ r, t = 1 ∨ t = -1) ∧ acc ++ (r.flatMap fun t => endP hs (uA c * t) (uB c * t)) = lineR hs c ∧ m = S s2 (some (.c st.length)) (nv z4) (nv z5) (nv z6) (st ++ [Cell.lst (acc.map hpD)])) (fun _ _ _ => trivial) ?_ ?_ [1, -1] _ ⟨[c, oppH c], none, none, none, Nat.le_of_ble_eq_true rfl, fun t ht => by
      simp at ht
      exact ht, by
      unfold lineR
      rw [List.append_assoc]
      simp, rfl⟩
    · rintro t r _ K2 hK2 ⟨acc, z4, z5, z6, hle, hr, he, rfl⟩
      rw [List.length_cons] at hle
      rw [List.flatMap_cons] at he
      have ht := hr t List.mem_cons_self
      have hr' : ∀ t ∈ r, t = 1 ∨ t = -1 := fun x hx => hr x (List.mem_cons_of_mem _ hx)
      obtain ⟨a, ea⟩ : ∃ a, uA c * t = a := ⟨_, rfl⟩
      obtain ⟨b, eb⟩ : ∃ b, uB c * t = b := ⟨_, rfl⟩
      have ab : a.natAbs.log2 ≤ 1898 ∧ b.natAbs.log2 ≤ 1898 ∧ ¬ (a = 0 ∧ b = 0) := by
        rcases ht with rfl | rfl
        · rw [Int.mul_one] at ea eb
          rw [← ea, ← eb]
          exact ⟨by omega, by omega, u3⟩
        · rw [show uA c * -1 = -uA c by omega] at ea
          rw [show uB c * -1 = -uB c by omega] at eb
          rw [← ea, ← eb, Int.natAbs_neg, Int.natAbs_neg]
          exact ⟨by omega, by omega, by omega⟩
      rw [ea, eb] at he
      have tz : t.natAbs.log2 = 0 := by rcases ht with rfl | rfl <;> decide
      have zi : ∀ {x : Int}, x.natAbs.log2 ≤ 1898 → zb (x : Rat) ≤ 1900 := fun {x} hx => int_z (by omega)
      refine seq_to (S s2 (some (.c st.length)) (some (.d (.int t))) (some (.d (.tup [fr (a : Rat), fr (b : Rat)]))) (nv z6) (st ++ [Cell.lst (acc.map hpD)])) (fun K hK => ?_) ?_
      · refine ⟨by show gcd2 c ≠ 0; omega, ?_⟩
        refine ⟨mulok (zm (by show (uA c).natAbs.log2 + _ < _; omega)), ?_⟩
        show sp_fraction [.d (.int (uA c * t)), .d (.int 1)] _ _
        rw [ea]
        refine frac1_ok ?_
        refine ⟨by show gcd2 c ≠ 0; omega, ?_⟩
        refine ⟨mulok (zm (by show (uB c).natAbs.log2 + _ < _; omega)), ?_⟩
        show sp_fraction [.d (.int (uB c * t)), .d (.int 1)] _ _
        rw [eb]
        refine frac1_ok ?_
        exact ⟨lineN rfl, hK⟩
      refine seq_to (S s2 (some (.c st.length)) (some (.d (.int t))) (some (.d (.tup [fr (a : Rat), fr (b : Rat)]))) (some (.d (ofr (supF a b hs)))) (st ++ [Cell.lst (acc.map hpD)])) (fun K hK => ?_) ?_
      · exact sup_ok (n := 1900) (fun k hk => (hp k hk).1) (Nat.le_trans (zi ab.1) (by decide)) (Nat.le_trans (zi ab.2.1) (by decide)) (fun k hk => (hp k hk).z) (by decide) (by omega) hK
      cases hs' : supF a b hs with
      | none =>
        have : endP hs a b = [] := by unfold endP; rw [hs']
        rw [this, List.nil_append] at he
        refine guard_end (fun m => m = S s2 (some (.c st.length)) (some (.d (.int t))) (some (.d (.tup [fr (a : Rat), fr (b : Rat)]))) (some (.d .non)) (st ++ [Cell.lst (acc.map hpD)])) (fun K hK => hK _ rfl) ?_
        rintro _ rfl
        exact hK2 _ ⟨acc, some (.int t), some (.tup [fr (a : Rat), fr (b : Rat)]), some .non, by omega, hr', he, rfl⟩
      | some e =>
        have ee : endP hs a b = [mkH a b e] := by unfold endP; rw [hs']
        rw [ee] at he
        have ez := sup_zz (n := 1900) (Nat.le_trans (zi ab.1) (by decide)) (Nat.le_trans (zi ab.2.1) (by decide)) (fun k hk => (hp k hk).z) e hs'
        have nz : ¬ ((a : Rat) = 0 ∧ (b : Rat) = 0) := fun ⟨x, y⟩ => ab.2.2 ⟨Rat.intCast_eq_zero_iff.mp x, Rat.intCast_eq_zero_iff.mp y⟩
        refine ifs_t (S s2 (some (.c st.length)) (some (.d (.int t))) (some (.d (.tup [fr (a : Rat), fr (b : Rat)]))) (some (.d (fr e))) (st ++ [Cell.lst (acc.map hpD)])) (fun K h => h) ?_
        refine append_st (k := st.length) (xs := acc.map hpD) (hpD (mkH a b e)) ?_ ?_ (fun C hC => ?_) (small_lt (by rw [List.length_map]; omega)) ?_
        · rfl
        · exact getElem_last _ _
        · exact mkplane_ok (n := 50000) nz (Nat.le_trans (zi ab.1) (by decide)) (Nat.le_trans (zi ab.2.1) (by decide)) (by omega) (by decide) hC
        · dsimp only
          show K2 ⟨_, (st ++ [_]).set st.length _⟩
          rw [set_last]
          refine hK2 _ ⟨acc ++ [mkH a b e], some (.int t), some (.tup [fr (a : Rat), fr (b : Rat)]), some (fr e), by rw [List.length_append, List.length_singleton]; omega, hr', by rw [List.append_assoc]; exact he, ?_⟩
          dsimp only [S]
          rw [List.map_append]
          rfl
    · rintro _ ⟨acc, z4, z5, z6, _, _, he, rfl⟩
      rw [List.flatMap_nil, List.append_nil] at he
      rw [he]
      exact hK _ ⟨_, _, _, rfl⟩
  rintro _ ⟨z4, z5, z6, rfl⟩
  have ll : (lineR hs c).length ≤ 4 := by
    have l1 : ∀ a b, (endP hs a b).length ≤ 1 := fun a b => by
      unfold endP
      cases supF a b hs <;> exact Nat.le_of_ble_eq_true rfl
    unfold lineR
    rw [List.length_append, List.length_append]
    have := l1 (uA c * 1) (uB c * 1)
    have := l1 (uA c * -1) (uB c * -1)
    show 2 + _ + _ ≤ 4
    omega
  unfold dRet dCall dCons
  refine fz_at (i := 3) (k := st.length) (m := S s2 (some (.c st.length)) (nv z4) (nv z5) (nv z6) (st ++ [Cell.lst ((lineR hs c).map hpD)])) (xs := (lineR hs c).map hpD) rfl (getElem_last _ _) ?_
  have e : frz st.length ((lineR hs c).map hpD) (S s2 (some (.c st.length)) (nv z4) (nv z5) (nv z6) (st ++ [Cell.lst ((lineR hs c).map hpD)])) = S s2 (some (.d (.lst ((lineR hs c).map hpD)))) (nv z4) (nv z5) (nv z6) (st ++ [.dead]) := by
    unfold frz
    simp only [S, s2, List.map_cons, List.map_nil, set_last, if_true]
    cases z4 <;> cases z5 <;> cases z6 <;> rfl
  rw [e]
  refine inorder_ok hE (by omega) ?_
  exact tk0 h
theorem pointplanes_ok {z : Ray} {n : Nat} (h1 : zb z.1 ≤ n) (h2 : zb z.2 ≤ n) (hn : n ≤ 100000) (hE : ∀ k ∈ pointR z, Pg k) (h : Q (.d (.lst ((inOrd (pointR z)).map hpD))) st) : sp_point_planes [.d (rayD z)] st Q := by
  have z1 : zb (1 : Rat) = 2 := by decide +kernel
  have z1' : zb (-1 : Rat) = 2 := by decide +kernel
  have z0 : zb (0 : Rat) = 2 := zb0
  have za := zb_add z.1 z.2
  have zn := zb_neg (z.1 + z.2)
  have n10 : ¬ ((1 : Rat) = 0 ∧ (0 : Rat) = 0) := fun z => absurd z.1 (by decide)
  have n01 : ¬ ((0 : Rat) = 0 ∧ (1 : Rat) = 0) := fun z => absurd z.2 (by decide)
  have n11 : ¬ ((-1 : Rat) = 0 ∧ (-1 : Rat) = 0) := fun z => absurd z.1 (by decide +kernel)
  unfold sp_point_planes
  refine ⟨rfl, ?_⟩
  let S : Option Vl → M := fun z3 => ⟨[some (.d (rayD z)), some (.d (fr z.1)), some (.d (fr z.2)), z3], st⟩
  refine seq_to (S none) (fun K hK => ⟨rfl, hK⟩) ?_
  refine seq_to (S (some (.d (hpD (mkH (-1) (-1) (-(z.1 + z.2))))))) (fun K hK => ?_) ?_
  · refine negative_ok (x := 1) ?_
    refine negative_ok (x := 1) ?_
    refine add_ok (x := z.1) (y := z.2) (zm (by omega)) ?_
    refine negative_ok ?_
    exact mkplane_ok (n := 2 * n + 2) n11 (by omega) (by omega) (by omega) (by omega) hK
  refine mkplane_ok (p := 1) (q := 0) (r := z.1) (n := 2 * n + 2) n10 (by omega) (by omega) (by omega) (by omega) ?_
  refine mkplane_ok (p := 0) (q := 1) (r := z.2) (n := 2 * n + 2) n01 (by omega) (by omega) (by omega) (by omega) ?_
  refine ⟨slt rfl, ?_⟩
  exact inorder_ok (L0 := pointR z) hE (Nat.le_of_ble_eq_true rfl) (tk h)
theorem emptyR_pg : ∀ k ∈ emptyR, Pg k := fun k hk => by
  unfold emptyR at hk
  simp at hk
  rcases hk with rfl | rfl
  · exact ep1
  · exact ep2
theorem canonical_ok {hs : List Hp3} (hp : ∀ g ∈ hs, Pg g) (hl : hs.length ≤ 40) (hE1 : emptyB hs = false → ∀ g, lineF hs = some g → isPoint hs g = true → ∀ k ∈ pointR (midH hs, midS hs), Pg k) (hE2 : emptyB hs = false → ∀ g, lineF hs = some g → isPoint hs g = false → ∀ k ∈ lineR hs (carr g), Pg k) (h : Q (.d (.lst ((canP hs).map hpD))) st) : sp_canonical_half_planes [.d (.lst (hs.map hpD))] st Q := by
  have hd : ∀ g ∈ hs, Dir g := fun g hg => (hp g hg).1
  have hz : ∀ g ∈ hs, HZ 1900 g := fun g hg => (hp g hg).z
  unfold sp_canonical_half_planes
  refine ⟨rfl, ?_⟩
  let S : M := ⟨[some (.d (.lst (hs.map hpD))), some (.d (.str (kindF hs)))], st⟩
  refine seq_to S (fun K hK => kind_ok hd hz (by decide) (by omega) hK) ?_
  unfold canP at h
  by_cases ce : emptyB hs = true
  · rw [if_pos ce] at h
    have ek : kindF hs = "empty" := by unfold kindF; rw [if_pos ce]
    refine PG.ifs_t' S (fun K hK => ?_) ?_
    · show shD (.str (kindF hs)) ∧ shD (.str ("empty" : Str)) ∧ K (eqD (.str (kindF hs)) (.str ("empty" : Str))) S
      rw [ek, eqD_self]
      rw [ek] at *
      exact ⟨s_empty, s_empty, hK⟩
    · refine ⟨lineN rfl, lineN rfl, slt rfl, ?_⟩
      exact inorder_ok (L0 := emptyR) emptyR_pg (Nat.le_of_ble_eq_true rfl) (tk h)
  have ce' : emptyB hs = false := by simpa using ce
  rw [if_neg ce] at h
  cases hL : lineF hs with
  | none =>
    rw [hL] at h
    have ek : kindF hs = "area" := by unfold kindF; rw [if_neg ce, hL]
    refine guard_st S (fun K hK => ?_) ?_
    · show shD (.str (kindF hs)) ∧ shD (.str ("empty" : Str)) ∧ K (eqD (.str (kindF hs)) (.str ("empty" : Str))) S
      rw [ek, eqS, ne_ae]
      exact ⟨s_area, s_empty, hK⟩
    refine PG.ifs_t' S (fun K hK => ?_) (needed_ok hp (by omega) (tk h))
    show shD (.str (kindF hs)) ∧ shD (.str ("area" : Str)) ∧ K (eqD (.str (kindF hs)) (.str ("area" : Str))) S
    rw [ek, eqD_self]
    exact ⟨s_area, s_area, hK⟩
  | some g =>
    rw [hL] at h
    have ek : kindF hs = kindR (infF (-(g.q : Rat)) g.p hs) (supF (-(g.q : Rat)) g.p hs) := by unfold kindF; rw [if_neg ce, hL]
    obtain ⟨k1, k2, k3⟩ := kindR_ne (a := infF (-(g.q : Rat)) g.p hs) (b := supF (-(g.q : Rat)) g.p hs)
    have k4 := isPoint_eq (hs := hs) (g := g)
    rw [← ek] at k1 k2 k3 k4
    refine guard_st S (fun K hK => ?_) ?_
    · show shD (.str (kindF hs)) ∧ shD (.str ("empty" : Str)) ∧ K (eqD (.str (kindF hs)) (.str ("empty" : Str))) S
      rw [eqS, k1]
      exact ⟨k3, s_empty, hK⟩
    refine guard_st S (fun K hK => ?_) ?_
    · show shD (.str (kindF hs)) ∧ shD (.str ("area" : Str)) ∧ K (eqD (.str (kindF hs)) (.str ("area" : Str))) S
      rw [eqS, k2]
      exact ⟨k3, s_area, hK⟩
    have h : Q (.d (.lst ((if isPoint hs g = true then inOrd (pointR (midH hs, midS hs)) else inOrd (lineR hs (carr g))).map hpD))) st := h
    cases cp : isPoint hs g with
    | true =>
      rw [cp, if_pos rfl] at h
      rw [cp] at k4
      refine PG.ifs_t' S (fun K hK => ?_) ?_
      · show shD (.str (kindF hs)) ∧ shD (.str ("point" : Str)) ∧ K (eqD (.str (kindF hs)) (.str ("point" : Str))) S
        rw [eqS, k4]
        exact ⟨k3, s_point, hK⟩
      obtain ⟨x0, hx0⟩ := not_empty hd ce'
      have m1 := midH_z hd hz hx0
      have m2 := midS_z hd hz hx0
      refine sample_ok hd hz (by decide) (by decide) (by omega) ?_
      unfold sampleF
      rw [if_neg ce]
      exact pointplanes_ok (z := (midH hs, midS hs)) (n := 60000) (by show zb (midH hs) ≤ 60000; omega) (by show zb (midS hs) ≤ 60000; omega) (by decide) (hE1 ce' g hL cp) (tk h)
    | false =>
      rw [cp, if_neg Bool.false_ne_true] at h
      rw [cp] at k4
      refine guard_st S (fun K hK => ?_) ?_
      · show shD (.str (kindF hs)) ∧ shD (.str ("point" : Str)) ∧ K (eqD (.str (kindF hs)) (.str ("point" : Str))) S
        rw [eqS, k4]
        exact ⟨k3, s_point, hK⟩
      exact lineplanes_ok hp (by omega) hL (hE2 ce' g hL cp) (tk h)
end
end B
end PG

set_option maxRecDepth 100000
set_option maxHeartbeats 4000000

namespace PG
namespace B
open PySem PySem.Spec PyProof.Rows L2 RT
theorem imp_iff {hs : List Hp3} {g : Hp3} (hd : ∀ k ∈ hs, Dir k) : impB hs g = true ↔ ∀ x, Rg hs x → valH g x ≤ (g.r : Rat) := by
  unfold impB
  cases ce : emptyB hs with
  | true =>
    rw [Bool.true_or]
    exact ⟨fun _ x hx => absurd ⟨x, hx⟩ ((emptyB_iff hd).mp ce), fun _ => rfl⟩
  | false =>
    obtain ⟨x0, hx0⟩ := not_empty hd ce
    have hs' := sup_is (p := (g.p : Rat)) (q := g.q) hd hx0
    rw [Bool.false_or]
    cases es : supF g.p g.q hs with
    | none =>
      rw [es] at hs'
      refine ⟨fun h => absurd h Bool.false_ne_true, fun h => ?_⟩
      obtain ⟨x, hx, hm⟩ := hs' ((g.r : Rat) + 1)
      have a := h x hx
      have b : (g.r : Rat) + 1 ≤ valH g x := hm
      grind
    | some s =>
      rw [es] at hs'
      obtain ⟨h1, x, hx, e⟩ := hs'
      show decide (s ≤ (g.r : Rat)) = true ↔ _
      rw [decide_eq_true_iff]
      constructor
      · intro h y hy
        have a := h1 y hy
        have b : valH g y ≤ s := a
        grind
      · intro h
        have a := h x hx
        have b : valH g x = s := e
        grind
end B
end PG

set_option maxRecDepth 100000
set_option maxHeartbeats 4000000

namespace PG
namespace B
open PySem PySem.Spec PyProof.Rows L2 RT
theorem zb_i1 : zb (1 : Rat) = 2 := by decide +kernel
theorem zb_im : zb (-1 : Rat) = 2 := by decide +kernel
theorem HZ.le {n m : Nat} {g : Hp3} (h : HZ n g) (hm : n ≤ m) : HZ m g := ⟨by have := h.1; omega, by have := h.2.1; omega, by have := h.2.2; omega⟩
theorem oppH_z {n : Nat} {g : Hp3} (h : HZ n g) : HZ n (oppH g) := by
  obtain ⟨a, b, c⟩ := h
  refine ⟨?_, ?_, ?_⟩
  · show (-g.p).natAbs.log2 + 2 ≤ n
    rw [Int.natAbs_neg]; exact a
  · show (-g.q).natAbs.log2 + 2 ≤ n
    rw [Int.natAbs_neg]; exact b
  · show (-g.r).natAbs.log2 + 2 ≤ n
    rw [Int.natAbs_neg]; exact c
theorem mkH_pgz {p q r : Rat} {n : Nat} (h : ¬ (p = 0 ∧ q = 0)) (hn : zb p + zb q + zb r ≤ n) (h19 : n ≤ 1900) : Pg (mkH p q r) ∧ HZ n (mkH p q r) :=
  ⟨⟨mkH_dir h, mkH_prim h, HZ.le (mkH_z hn) h19⟩, mkH_z hn⟩
theorem point_z {hs : List Hp3} {n : Nat} (hp : ∀ g ∈ hs, Pg g) (hz : ∀ g ∈ hs, HZ n g) (he : emptyB hs = false) {g : Hp3} (hg : lineF hs = some g) (hpt : isPoint hs g = true) : zb (midH hs) ≤ 2 * n + 2 ∧ zb (midS hs) ≤ 2 * n + 2 := by
  have hd : ∀ g ∈ hs, Dir g := fun g hg => (hp g hg).1
  obtain ⟨x0, hx0⟩ := not_empty hd he
  obtain ⟨c, hc, hcr⟩ := cand_of hd hx0
  have ec : c = (midH hs, midS hs) := point_one hd he hg hpt hcr (midS_in hd hx0)
  have := candN_z hd hz c hc
  rw [ec] at this
  exact this
theorem pointR_pg {hs : List Hp3} {n : Nat} (hp : ∀ g ∈ hs, Pg g) (hz : ∀ g ∈ hs, HZ n g) (hn : n ≤ 220) (he : emptyB hs = false) {g : Hp3} (hg : lineF hs = some g) (hpt : isPoint hs g = true) : ∀ k ∈ pointR (midH hs, midS hs), Pg k ∧ HZ (8 * n + 8) k := fun k hk => by
  obtain ⟨a, b⟩ := point_z hp hz he hg hpt
  have z0 : zb (0 : Rat) = 2 := zb0
  have z1 := zb_i1
  have z1' := zb_im
  have za := zb_add (midH hs) (midS hs)
  have zn := zb_neg (midH hs + midS hs)
  unfold pointR at hk
  simp only [List.mem_cons, List.not_mem_nil, or_false] at hk
  rcases hk with rfl | rfl | rfl
  · exact mkH_pgz n10 (by omega) (by omega)
  · exact mkH_pgz (fun z => absurd z.2 (by decide)) (by omega) (by omega)
  · exact mkH_pgz (fun z => absurd z.1 (by decide +kernel)) (by omega) (by omega)
theorem supI_z {hs : List Hp3} {n : Nat} {p q : Rat} (hp : ∀ g ∈ hs, Pg g) (hz : ∀ g ∈ hs, HZ n g) (h1 : zb p ≤ n) (h2 : zb q ≤ n) {x0 : Ray} (hx : Rg hs x0) {v : Rat} (h : supF p q hs = some v) : zb v ≤ 6 * n + 4 := by
  have hd : ∀ g ∈ hs, Dir g := fun g hg => (hp g hg).1
  obtain ⟨c, hc, e⟩ := sup_pt hd hx h
  obtain ⟨c1, c2⟩ := pts_z hd hz c hc
  have a := zb_mul p c.1
  have b := zb_mul q c.2
  have d := zb_add (p * c.1) (q * c.2)
  rw [← e]
  show zb (p * c.1 + q * c.2) ≤ _
  omega
theorem end_pg {hs : List Hp3} {n : Nat} (hp : ∀ g ∈ hs, Pg g) (hz : ∀ g ∈ hs, HZ n g) (hn : n ≤ 220) {x0 : Ray} (hx : Rg hs x0) {a b : Int} (h0 : ¬ (a = 0 ∧ b = 0)) (ha : zb (a : Rat) ≤ n) (hb : zb (b : Rat) ≤ n) : ∀ k ∈ endP hs a b, Pg k ∧ HZ (8 * n + 8) k := fun k hk => by
  rw [endP_sup] at hk
  have nz : ¬ ((a : Rat) = 0 ∧ (b : Rat) = 0) := fun ⟨x, y⟩ => h0 ⟨Rat.intCast_eq_zero_iff.mp x, Rat.intCast_eq_zero_iff.mp y⟩
  cases es : supF (a : Rat) (b : Rat) hs with
  | none => rw [es] at hk; exact nomatch hk
  | some v =>
    have zv := supI_z hp hz ha hb hx es
    rw [es] at hk
    rw [List.mem_singleton.mp (show k ∈ [mkH (a : Rat) (b : Rat) v] from hk)]
    exact mkH_pgz nz (by omega) (by omega)
theorem carr_pg {n : Nat} {g : Hp3} (h : Pg g) (hz : HZ n g) : Pg (carr g) ∧ HZ n (carr g) := by
  rcases carr_mem h with e | e
  · rw [e]; exact ⟨h, hz⟩
  · rw [e]; exact ⟨oppH_pg h, oppH_z hz⟩
theorem lineR_pg {hs : List Hp3} {n : Nat} (hp : ∀ g ∈ hs, Pg g) (hz : ∀ g ∈ hs, HZ n g) (hn : n ≤ 220) (he : emptyB hs = false) {g : Hp3} (hg : lineF hs = some g) : ∀ k ∈ lineR hs (carr g), Pg k ∧ HZ (8 * n + 8) k := fun k hk => by
  have hd : ∀ g ∈ hs, Dir g := fun g hg => (hp g hg).1
  obtain ⟨x0, hx0⟩ := not_empty hd he
  obtain ⟨pc, cz⟩ := carr_pg (hp g (line_mem hg)) (hz g (line_mem hg))
  obtain ⟨u1, u2⟩ := uAB_z pc.1 cz
  obtain ⟨_, _, u3, _, _⟩ := uAB_le pc.1
  unfold lineR at hk
  rcases List.mem_append.mp hk with hk | hk
  · rcases List.mem_append.mp hk with hk | hk
    · simp at hk
      rcases hk with rfl | rfl
      · exact ⟨pc, HZ.le cz (by omega)⟩
      · exact ⟨oppH_pg pc, HZ.le (oppH_z cz) (by omega)⟩
    · rw [Int.mul_one, Int.mul_one] at hk
      exact end_pg hp hz hn hx0 u3 u1 u2 k hk
  · rw [show uA (carr g) * -1 = -uA (carr g) by omega, show uB (carr g) * -1 = -uB (carr g) by omega] at hk
    exact end_pg hp hz hn hx0 (by omega) (by rw [Rat.intCast_neg, zb_neg]; exact u1) (by rw [Rat.intCast_neg, zb_neg]; exact u2) k hk

end B
end PG

set_option maxRecDepth 100000
set_option maxHeartbeats 4000000

namespace PG
namespace B
open PySem PySem.Spec PyProof.Rows L2 RT

def agree (m n : Mp) (x : Ray) : Prop := appM m x = appM n x

def near (c : Hp3) : Ray := (Rat.divInt (c.p * c.r) (c.p * c.p + c.q * c.q), Rat.divInt (c.q * c.r) (c.p * c.p + c.q * c.q))
def baseF (hs : List Hp3) : List Ray := if emptyB hs = true then [] else match lineF hs with
  | none => [(0, 0), (1, 0), (0, 1)]
  | some g => if isPoint hs g = true then [(midH hs, midS hs)] else [near (carr g), ((near (carr g)).1 + -((carr g).q : Rat), (near (carr g)).2 + ((carr g).p : Rat))]
theorem size_pos {c : Hp3} (h : Dir c) : 0 < c.p * c.p + c.q * c.q := Rat.intCast_pos.mp h.pos
theorem near_z {n : Nat} {c : Hp3} (h : Dir c) (hz : HZ n c) : zb (near c).1 ≤ 2 * n ∧ zb (near c).2 ≤ 2 * n := by
  have s0 := size_pos h
  have d1 := dot_z hz hz
  have a := lgm hz.1 hz.2.2
  have b := lgm hz.2.1 hz.2.2
  have e1 := zb_divInt (n := c.p * c.r) (d := c.p * c.p + c.q * c.q) (by omega)
  have e2 := zb_divInt (n := c.q * c.r) (d := c.p * c.p + c.q * c.q) (by omega)
  have d1 : (c.p * c.p + c.q * c.q).natAbs.log2 + 2 ≤ 2 * n := d1
  exact ⟨by show zb (Rat.divInt _ _) ≤ _; omega, by show zb (Rat.divInt _ _) ≤ _; omega⟩
theorem base_z {hs : List Hp3} {n : Nat} (hp : ∀ g ∈ hs, Pg g) (hz : ∀ g ∈ hs, HZ n g) : ∀ x ∈ baseF hs, zb x.1 ≤ 3 * n + 2 ∧ zb x.2 ≤ 3 * n + 2 := fun x hx => by
  have z0 : zb (0 : Rat) = 2 := zb0
  have z1 := zb_i1
  unfold baseF at hx
  by_cases ce : emptyB hs = true
  · rw [if_pos ce] at hx
    exact nomatch hx
  rw [if_neg ce] at hx
  have ce' : emptyB hs = false := by simpa using ce
  cases hL : lineF hs with
  | none =>
    rw [hL] at hx
    have hx : x ∈ [((0 : Rat), (0 : Rat)), (1, 0), (0, 1)] := hx
    simp only [List.mem_cons, List.not_mem_nil, or_false] at hx
    rcases hx with rfl | rfl | rfl
    · exact ⟨by show zb (0 : Rat) ≤ _; omega, by show zb (0 : Rat) ≤ _; omega⟩
    · exact ⟨by show zb (1 : Rat) ≤ _; omega, by show zb (0 : Rat) ≤ _; omega⟩
    · exact ⟨by show zb (0 : Rat) ≤ _; omega, by show zb (1 : Rat) ≤ _; omega⟩
  | some g =>
    rw [hL] at hx
    have hx : x ∈ (if isPoint hs g = true then [(midH hs, midS hs)] else [near (carr g), ((near (carr g)).1 + -((carr g).q : Rat), (near (carr g)).2 + ((carr g).p : Rat))]) := hx
    split at hx
    · obtain ⟨a, b⟩ := point_z hp hz ce' hL ‹_›
      rw [List.mem_singleton.mp hx]
      exact ⟨by show zb (midH hs) ≤ _; omega, by show zb (midS hs) ≤ _; omega⟩
    · obtain ⟨pc, cz⟩ := carr_pg (hp g (line_mem hL)) (hz g (line_mem hL))
      obtain ⟨a, b⟩ := near_z pc.1 cz
      obtain ⟨y1, y2, _⟩ := cz.zb
      have c1 := zb_add (near (carr g)).1 (-((carr g).q : Rat))
      have c2 := zb_add (near (carr g)).2 ((carr g).p : Rat)
      rw [zb_neg] at c1
      simp only [List.mem_cons, List.not_mem_nil, or_false] at hx
      rcases hx with rfl | rfl
      · exact ⟨by omega, by omega⟩
      · exact ⟨by show zb ((near (carr g)).1 + -((carr g).q : Rat)) ≤ _; omega, by show zb ((near (carr g)).2 + ((carr g).p : Rat)) ≤ _; omega⟩
theorem base_len (hs : List Hp3) : (baseF hs).length ≤ 3 := by
  unfold baseF
  split
  · exact Nat.zero_le _
  · split
    · exact Nat.le_refl _
    · split <;> exact Nat.le_of_ble_eq_true rfl

def exD (m : Mp) (z : Ray) : Dt := .tup [rayD z, rayD (appM m z)]
def formD (hs : List Hp3) (m : Mp) : Dt := .tup [.str (kindF hs), .lst ((canP hs).map hpD), .lst ((baseF hs).map (exD m))]
theorem kind_lay (hs : List Hp3) : PyData.canLay0 (.str (kindF hs)) = true := by
  have k1 : PyData.canLay0 (.str ("empty" : Str)) = true := by decide +kernel
  have k2 : PyData.canLay0 (.str ("area" : Str)) = true := by decide +kernel
  have k3 : PyData.canLay0 (.str ("line" : Str)) = true := by decide +kernel
  have k4 : PyData.canLay0 (.str ("halfLine" : Str)) = true := by decide +kernel
  have k5 : PyData.canLay0 (.str ("segment" : Str)) = true := by decide +kernel
  have k6 : PyData.canLay0 (.str ("point" : Str)) = true := by decide +kernel
  unfold kindF
  split
  · exact k1
  · split
    · exact k2
    · unfold kindR
      split
      · exact k3
      · exact k4
      · exact k4
      · split
        · exact k6
        · exact k5
def Alike (a : List Hp3) (m : Mp) (b : List Hp3) (n : Mp) : Prop := (∀ x, Rg a x ↔ Rg b x) ∧ ∀ x, Rg a x → agree m n x
theorem Alike.symm {a b : List Hp3} {m n : Mp} (h : Alike a m b n) : Alike b n a m := ⟨fun x => (h.1 x).symm, fun x hx => (h.2 x ((h.1 x).mpr hx)).symm⟩

end B
end PG

set_option maxRecDepth 100000
set_option maxHeartbeats 4000000

namespace PG
namespace B
open PySem PySem.Spec PyProof.Rows L2 RT
section
variable {st : List Cell} {Q : Vl → List Cell → Prop}
theorem kind_test {hs : List Hp3} {s : Str} {m : M} {K : Bool → M → Prop} (hs' : PyData.canLay0 (.str s) = true) (h : K (decide (kindF hs = s)) m) : shD (.str (kindF hs)) ∧ shD (.str s) ∧ K (eqD (.str (kindF hs)) (.str s)) m := by
  rw [eqS]
  exact ⟨shS (kind_lay hs), shS hs', h⟩
theorem l_empty : PyData.canLay0 (.str ("empty" : Str)) = true := by decide +kernel
theorem l_area : PyData.canLay0 (.str ("area" : Str)) = true := by decide +kernel
theorem l_point : PyData.canLay0 (.str ("point" : Str)) = true := by decide +kernel
theorem kind_cases (hs : List Hp3) : (emptyB hs = true ∧ kindF hs = "empty") ∨ (emptyB hs = false ∧ lineF hs = none ∧ kindF hs = "area") ∨ (emptyB hs = false ∧ ∃ g, lineF hs = some g ∧ ((isPoint hs g = true ∧ kindF hs = "point") ∨ (isPoint hs g = false ∧ decide (kindF hs = "empty") = false ∧ decide (kindF hs = "area") = false ∧ decide (kindF hs = "point") = false))) := by
  by_cases ce : emptyB hs = true
  · exact .inl ⟨ce, by unfold kindF; rw [if_pos ce]⟩
  have ce' : emptyB hs = false := by simpa using ce
  cases hL : lineF hs with
  | none => exact .inr (.inl ⟨ce', rfl, by unfold kindF; rw [if_neg ce, hL]⟩)
  | some g =>
    have ek : kindF hs = kindR (infF (-(g.q : Rat)) g.p hs) (supF (-(g.q : Rat)) g.p hs) := by unfold kindF; rw [if_neg ce, hL]
    obtain ⟨k1, k2, k3⟩ := kindR_ne (a := infF (-(g.q : Rat)) g.p hs) (b := supF (-(g.q : Rat)) g.p hs)
    have k4 := isPoint_eq (hs := hs) (g := g)
    rw [← ek] at k1 k2 k3 k4
    refine .inr (.inr ⟨ce', g, rfl, ?_⟩)
    cases cp : isPoint hs g with
    | true => rw [cp, decide_eq_true_iff] at k4; exact .inl ⟨rfl, k4⟩
    | false => rw [cp] at k4; exact .inr ⟨rfl, k1, k2, k4⟩
theorem ne_pe : decide (("point" : Str) = "empty") = false := by decide +kernel
theorem ne_pa : decide (("point" : Str) = "area") = false := by decide +kernel
theorem baserays_ok {hs : List Hp3} {n : Nat} (hp : ∀ g ∈ hs, Pg g) (hz : ∀ g ∈ hs, HZ n g) (hn : n ≤ 10000) (h2 : 2 ≤ n) (hl : hs.length ≤ 40) (h : Q (.d (.lst ((baseF hs).map rayD))) st) : sp_base_rays [.d (.lst (hs.map hpD))] st Q := by
  have hd : ∀ g ∈ hs, Dir g := fun g hg => (hp g hg).1
  unfold sp_base_rays
  refine ⟨rfl, ?_⟩
  let S : Option Vl → Option Vl → Option Vl → Option Vl → Option Vl → M := fun z2 z3 z4 z5 z6 => ⟨[some (.d (.lst (hs.map hpD))), some (.d (.str (kindF hs))), z2, z3, z4, z5, z6], st⟩
  let S0 : M := S none none none none none
  refine seq_to S0 (fun K hK => kind_ok hd hz (by omega) (by omega) hK) ?_
  unfold baseF at h
  rcases kind_cases hs with ⟨ce, ek⟩ | ⟨ce, hL, ek⟩ | ⟨ce, g, hL, hk⟩
  · rw [if_pos ce] at h
    exact PG.ifs_t' S0 (fun K hK => kind_test l_empty (by rw [ek, decide_eq_true rfl]; exact hK)) ⟨lineN rfl, PG.tk h⟩
  · rw [if_neg (by rw [ce]; exact Bool.false_ne_true), hL] at h
    refine guard_st S0 (fun K hK => kind_test l_empty (by rw [ek, ne_ae]; exact hK)) ?_
    refine PG.ifs_t' S0 (fun K hK => kind_test l_area (by rw [ek, decide_eq_true rfl]; exact hK)) ?_
    rw [v_zero, v_one]
    exact ⟨lineN rfl, lineN rfl, lineN rfl, lineN rfl, PG.tk h⟩
  · rw [if_neg (by rw [ce]; exact Bool.false_ne_true), hL] at h
    have h : Q (.d (.lst ((if isPoint hs g = true then [(midH hs, midS hs)] else [near (carr g), ((near (carr g)).1 + -((carr g).q : Rat), (near (carr g)).2 + ((carr g).p : Rat))]).map rayD))) st := h
    rcases hk with ⟨cp, ek⟩ | ⟨cp, k1, k2, k3⟩
    · rw [if_pos cp] at h
      refine guard_st S0 (fun K hK => kind_test l_empty (by rw [ek, ne_pe]; exact hK)) ?_
      refine guard_st S0 (fun K hK => kind_test l_area (by rw [ek, ne_pa]; exact hK)) ?_
      refine PG.ifs_t' S0 (fun K hK => kind_test l_point (by rw [ek, decide_eq_true rfl]; exact hK)) ?_
      refine sample_ok hd hz (by omega) h2 (by omega) ?_
      unfold sampleF
      rw [if_neg (by rw [ce]; exact Bool.false_ne_true)]
      exact ⟨lineN rfl, PG.tk h⟩
    · rw [if_neg (by rw [cp]; exact Bool.false_ne_true)] at h
      refine guard_st S0 (fun K hK => kind_test l_empty (by rw [k1]; exact hK)) ?_
      refine guard_st S0 (fun K hK => kind_test l_area (by rw [k2]; exact hK)) ?_
      refine guard_st S0 (fun K hK => kind_test l_point (by rw [k3]; exact hK)) ?_
      obtain ⟨pc, cz⟩ := carr_pg (hp g (line_mem hL)) (hz g (line_mem hL))
      obtain ⟨nz1, nz2⟩ := near_z pc.1 cz
      obtain ⟨y1, y2, y3⟩ := cz.zb
      have s0 := size_pos pc.1
      obtain ⟨c, ec⟩ : ∃ c, carr g = c := ⟨_, rfl⟩
      refine seq_to (S (some (.d (.int (carr g).p))) (some (.d (.int (carr g).q))) (some (.d (.int (carr g).r))) none none) (fun K hK => carrier_ok hp (by omega) hL ⟨rfl, hK⟩) ?_
      rw [ec] at h pc cz nz1 nz2 y1 y2 y3 s0 ⊢
      obtain ⟨m1, m2, m3⟩ := cz
      refine seq_to (S (some (.d (.int c.p))) (some (.d (.int c.q))) (some (.d (.int c.r))) (some (.d (.int (c.p * c.p + c.q * c.q)))) none) (fun K hK => ⟨mulok (zm (by omega)), mulok (zm (by omega)), hK⟩) ?_
      refine seq_to (S (some (.d (.int c.p))) (some (.d (.int c.q))) (some (.d (.int c.r))) (some (.d (.int (c.p * c.p + c.q * c.q)))) (some (.d (rayD (near c))))) (fun K hK => ?_) ?_
      · refine ⟨mulok (zm (by omega)), ?_⟩
        refine fraction_ok (d := c.p * c.p + c.q * c.q) (by omega) ?_
        refine ⟨mulok (zm (by omega)), ?_⟩
        refine fraction_ok (d := c.p * c.p + c.q * c.q) (by omega) ?_
        exact ⟨lineN rfl, hK⟩
      show sp_fraction [.d (.int (-c.q)), .d (.int 1)] _ _
      refine frac1_ok ?_
      rw [Rat.intCast_neg]
      refine add_ok (x := (near c).1) (y := -(c.q : Rat)) (zm (by rw [zb_neg]; omega)) ?_
      show sp_fraction [.d (.int c.p), .d (.int 1)] _ _
      refine frac1_ok ?_
      refine add_ok (x := (near c).2) (y := (c.p : Rat)) (zm (by omega)) ?_
      exact ⟨lineN rfl, lineN rfl, PG.tk h⟩
def plT (es : List El) : List Hp3 := (planesOf 0 idM es).map (·.2)
structure Tp (N n : Nat) (es : List El) : Prop where
  tz : Tz N es
  len : es.length ≤ 20
  hz : ∀ g ∈ plT es, HZ n g
  ln : (plT es).length ≤ 40
theorem Tp.pg {N n : Nat} {es : List El} (T : Tp N n es) (hn : n ≤ 1900) : ∀ g ∈ plT es, Pg g := fun g hg => by
  obtain ⟨x, hx, rfl⟩ := List.mem_map.mp hg
  have := planes_dir T.tz.ok x hx
  exact ⟨this.1, this.2, HZ.le (T.hz _ hg) hn⟩
theorem canonical_all {hs : List Hp3} {n : Nat} (hp : ∀ g ∈ hs, Pg g) (hz : ∀ g ∈ hs, HZ n g) (hn : n ≤ 220) (hl : hs.length ≤ 40) (h : Q (.d (.lst ((canP hs).map hpD))) st) : sp_canonical_half_planes [.d (.lst (hs.map hpD))] st Q :=
  canonical_ok hp hl (fun ce g hg cp k hk => (pointR_pg hp hz hn ce hg cp k hk).1) (fun ce g hg _ k hk => (lineR_pg hp hz hn ce hg k hk).1) h
theorem form_ok {N n : Nat} {es : List El} (T : Tp N n es) (hN : N ≤ 100000) (hn : n ≤ 220) (h2 : 2 ≤ n) (h : Q (.d (formD (plT es) (transfer es))) st) : sp_canonical_form [.d (.lst (es.map elD))] st Q := by
  have hp := T.pg (by omega)
  have hd : ∀ g ∈ plT es, Dir g := fun g hg => (hp g hg).1
  have bz := base_z hp T.hz
  have bl := base_len (plT es)
  unfold sp_canonical_form
  refine ⟨rfl, ?_⟩
  let S : Option Vl → Option Vl → Option Vl → M := fun z1 z2 z3 => ⟨[some (.d (.lst (es.map elD))), z1, z2, z3, none], st⟩
  let P : Option Vl := some (.d (.lst ((plT es).map hpD)))
  refine seq_to (S P none none) (fun K hK => planesof_t T.tz hN (by have := T.len; omega) hK) ?_
  refine seq_to (S P (some (.d (mpD (transfer es)))) none) (fun K hK => transfer_t T.tz hN hK) ?_
  refine seq_to (S P (some (.d (mpD (transfer es)))) (some (.d (.lst ((baseF (plT es)).map (exD (transfer es))))))) (fun K hK => ?_) ?_
  · refine dlc_map rayD (exD (transfer es)) (xs := baseF (plT es)) (fun K2 h2' => baserays_ok hp T.hz (by omega) h2 T.ln h2') (fun x hx C hC => ?_) (by omega) hK
    obtain ⟨x1, x2⟩ := bz x hx
    refine apply_ok (n := max N (3 * n + 2)) (T.tz.all.le (by omega)) (by omega) (by omega) (by omega) ?_
    exact ⟨lineN rfl, hC _⟩
  refine kind_ok (n := n) hd T.hz (by omega) (by have := T.ln; omega) ?_
  refine canonical_all hp T.hz hn T.ln ?_
  exact ⟨lineN rfl, PG.tk h⟩

end
end B
end PG

set_option maxRecDepth 100000
set_option maxHeartbeats 4000000

namespace PG
namespace B
open PySem PySem.Spec PyProof.Rows L2 RT
section
variable {st : List Cell} {Q : Vl → List Cell → Prop}
end
end B
end PG

set_option maxRecDepth 100000
set_option maxHeartbeats 4000000

namespace PG
namespace B
open PySem PySem.Spec PyProof.Rows L2 RT
section
variable {ds : List Int} {i k : Nat} {st : List Cell} {Q : Vl → List Cell → Prop}
end
end B
end PG

set_option maxRecDepth 100000
set_option maxHeartbeats 4000000

namespace PG
namespace B
open PySem PySem.Spec PyProof.Rows L2 RT
theorem lg_bl (b : Bool) : Lg 0 600 (.bl b) := by
  have t : (toPy (.bl true)).shown.length ≤ 600 := by decide +kernel
  have f : (toPy (.bl false)).shown.length ≤ 600 := by decide +kernel
  cases b
  · exact ⟨rfl, Nat.le_refl _, f⟩
  · exact ⟨rfl, Nat.le_refl _, t⟩
theorem shows_bl (b : Bool) : shows (.bl b) := (lg_bl b).shows (by decide) (by decide)
theorem Tp.le {N n K k : Nat} {es : List El} (T : Tp N n es) (h : N ≤ K) (h' : n ≤ k) : Tp K k es := ⟨T.tz.le h, T.len, fun g hg => HZ.le (T.hz g hg) h', T.ln⟩
end B
end PG

set_option maxRecDepth 100000
set_option maxHeartbeats 4000000

namespace PG
namespace B
open PySem PySem.Spec PyProof.Rows L2 RT

end B
end PG

set_option maxRecDepth 100000
set_option maxHeartbeats 4000000

namespace PG
namespace B
open PySem PySem.Spec PyProof.Rows L2 RT
structure Pd (M : Nat) (D : Int) (p q e : Rat) : Prop where
  dz : D ≠ 0
  db : D.natAbs.log2 + 2 ≤ M
  pi : ∃ P : Int, p * D = P ∧ P.natAbs.log2 + 2 ≤ M
  qi : ∃ P : Int, q * D = P ∧ P.natAbs.log2 + 2 ≤ M
  ei : ∃ P : Int, e * D = P ∧ P.natAbs.log2 + 2 ≤ M
structure Md (M : Nat) (m n : Mp) : Prop where
  one : ∃ D, Pd M D (m.a - n.a) (m.b - n.b) (m.e - n.e)
  two : ∃ D, Pd M D (m.c - n.c) (m.d - n.d) (m.f - n.f)
end B
end PG

set_option maxRecDepth 100000
set_option maxHeartbeats 4000000

namespace PG
namespace B
open PySem PySem.Spec PyProof.Rows L2 RT
section
variable {st : List Cell} {Q : Vl → List Cell → Prop}
end
end B
end PG

set_option maxRecDepth 100000
set_option maxHeartbeats 4000000

namespace PG
namespace B
open PySem PySem.Spec PyProof.Rows L2 RT
section
variable {st : List Cell} {Q : Vl → List Cell → Prop}
end
end B
end PG

set_option maxRecDepth 100000
set_option maxHeartbeats 4000000

namespace PG
namespace B
open PySem PySem.Spec PyProof.Rows L2 RT
section
variable {st : List Cell} {Q : Vl → List Cell → Prop}
end
end B
end PG

set_option maxRecDepth 100000
set_option maxHeartbeats 4000000

namespace PG
namespace B
open PySem PySem.Spec PyProof.Rows L2 RT
theorem planesOf_app : ∀ (k : Nat) (m : Mp) (a b : List El), planesOf k m (a ++ b) = planesOf k m a ++ planesOf (k + a.length) (comp m (transfer a)) b
  | k, m, [], b => by
    show planesOf k m b = [] ++ planesOf (k + 0) (comp m idM) b
    rw [List.nil_append, id_comp, Nat.add_zero]
  | k, m, e :: a, b => by
    show edgesAt k e m ++ planesOf (k + 1) (comp m (elM e)) (a ++ b) = edgesAt k e m ++ planesOf (k + 1) (comp m (elM e)) a ++ planesOf (k + (a.length + 1)) (comp m (transfer (e :: a))) b
    rw [planesOf_app, List.append_assoc, show k + (a.length + 1) = k + 1 + a.length by omega, transfer_cons, comp_assoc]
def cutE (up : Bool) : El → El
  | .stop lo hi => if up = true then .stop lo none else .stop none hi
  | e => e
def woE (es : List El) (x : Ed) : List El := es.take x.1 ++ [cutE x.2 (es.getD x.1 (.gap 0))] ++ es.drop (x.1 + 1)
theorem woE_split {a b : List El} {lo hi : Option Rat} {up : Bool} : woE (a ++ .stop lo hi :: b) (a.length, up) = a ++ cutE up (.stop lo hi) :: b := by
  unfold woE
  dsimp only
  rw [List.take_left, List.getD_eq_getElem?_getD, List.getElem?_append_right (Nat.le_refl _), Nat.sub_self, ← List.drop_drop, List.drop_left, List.append_assoc]
  rfl
theorem pl_split (a b : List El) (e : El) : planesOf 0 idM (a ++ e :: b) = planesOf 0 idM a ++ (edgesAt a.length e (transfer a) ++ planesOf (a.length + 1) (comp (transfer a) (elM e)) b) := by
  rw [planesOf_app, Nat.zero_add, comp_id]
  rfl
theorem edge_split {es : List El} {x : Ed × Hp3} (h : x ∈ planesOf 0 idM es) : ∃ a lo hi b, es = a ++ .stop lo hi :: b ∧ x.1.1 = a.length ∧ (x.1.2 = false → lowE a.length lo (transfer a) = [x]) ∧ (x.1.2 = true → uppE a.length hi (transfer a) = [x]) := by
  have go : ∀ (es : List El) (k : Nat) (m : Mp) (x : Ed × Hp3), x ∈ planesOf k m es → ∃ a lo hi b, es = a ++ .stop lo hi :: b ∧ x.1.1 = k + a.length ∧ (x.1.2 = false → lowE (k + a.length) lo (comp m (transfer a)) = [x]) ∧ (x.1.2 = true → uppE (k + a.length) hi (comp m (transfer a)) = [x]) := fun es => by
    induction es with
    | nil => exact fun k m x h => nomatch h
    | cons e es ih =>
      intro k m x h
      rcases List.mem_append.mp (show x ∈ edgesAt k e m ++ planesOf (k + 1) (comp m (elM e)) es from h) with h | h
      · have hc : comp m (transfer []) = m := id_comp m
        cases e with
        | stop lo hi =>
          refine ⟨[], lo, hi, es, rfl, ?_⟩
          rw [hc]
          rcases List.mem_append.mp (show x ∈ lowE k lo m ++ uppE k hi m from h) with h | h
          · cases lo with
            | none => exact nomatch h
            | some l =>
              have e : x = _ := List.mem_singleton.mp h
              rw [e]
              exact ⟨rfl, fun _ => rfl, fun h => nomatch h⟩
          · cases hi with
            | none => exact nomatch h
            | some l =>
              have e : x = _ := List.mem_singleton.mp h
              rw [e]
              exact ⟨rfl, (fun h => nomatch h), fun _ => rfl⟩
        | gap g => exact nomatch h
        | lens g c => exact nomatch h
        | prism g => exact nomatch h
        | afocal g => exact nomatch h
      · obtain ⟨a, lo, hi, b, e1, e2, e3, e4⟩ := ih (k + 1) _ x h
        refine ⟨e :: a, lo, hi, b, by rw [e1]; rfl, ?_, ?_, ?_⟩
        · rw [e2, List.length_cons]; omega
        · intro h
          have := e3 h
          rw [comp_assoc, ← transfer_cons] at this
          rw [List.length_cons, show k + (a.length + 1) = k + 1 + a.length by omega]
          exact this
        · intro h
          have := e4 h
          rw [comp_assoc, ← transfer_cons] at this
          rw [List.length_cons, show k + (a.length + 1) = k + 1 + a.length by omega]
          exact this
  obtain ⟨a, lo, hi, b, h1, h2, h3, h4⟩ := go es 0 idM x h
  rw [Nat.zero_add] at h2
  refine ⟨a, lo, hi, b, h1, h2, fun h => ?_, fun h => ?_⟩
  · have := h3 h
    rw [Nat.zero_add, comp_id] at this
    exact this
  · have := h4 h
    rw [Nat.zero_add, comp_id] at this
    exact this
theorem elM_cut (up : Bool) (lo hi : Option Rat) : elM (cutE up (.stop lo hi)) = idM := by
  cases up <;> rfl
theorem wo_planes {es : List El} {x : Ed × Hp3} (h : x ∈ planesOf 0 idM es) : (∀ y, y ∈ plT (woE es x.1) → y ∈ plT es) ∧ (∀ z, Rg (plT es) z ↔ Rg (plT (woE es x.1)) z ∧ valH x.2 z ≤ (x.2.r : Rat)) ∧ (plT (woE es x.1)).length + 1 = (plT es).length := by
  obtain ⟨a, lo, hi, b, rfl, e2, e3, e4⟩ := edge_split h
  have ex : x.1 = (a.length, x.1.2) := Prod.ext e2 rfl
  rw [ex, woE_split]
  unfold plT
  rw [pl_split, pl_split, elM_cut, show elM (.stop lo hi) = idM from rfl]
  generalize planesOf (a.length + 1) (comp (transfer a) idM) b = R
  generalize planesOf 0 idM a = A
  have ee : edgesAt a.length (.stop lo hi) (transfer a) = lowE a.length lo (transfer a) ++ uppE a.length hi (transfer a) := rfl
  rw [ee]
  have rg : ∀ (P S : List (Ed × Hp3)) (z : Ray), Rg ((P ++ S).map (·.2)) z ↔ Rg (P.map (·.2)) z ∧ Rg (S.map (·.2)) z := fun P S z => by
    unfold Rg
    rw [List.map_append, List.forall_mem_append]
  have one : ∀ z, Rg ([x].map (·.2)) z ↔ valH x.2 z ≤ (x.2.r : Rat) := fun z => by
    unfold Rg
    rw [List.map_cons, List.map_nil, List.forall_mem_singleton]
  cases hu : x.1.2 with
  | true =>
    rw [e4 hu]
    have ec : edgesAt a.length (cutE true (.stop lo hi)) (transfer a) = lowE a.length lo (transfer a) := List.append_nil _
    rw [ec]
    refine ⟨fun y hy => ?_, fun z => ?_, ?_⟩
    · rw [List.mem_map] at hy ⊢
      obtain ⟨w, hw, e⟩ := hy
      refine ⟨w, ?_, e⟩
      simp only [List.mem_append] at hw ⊢
      rcases hw with hw | hw | hw
      · exact .inl hw
      · exact .inr (.inl (.inl hw))
      · exact .inr (.inr hw)
    · rw [rg, rg, rg, rg, rg, one]
      exact ⟨fun ⟨p, ⟨q, r⟩, s⟩ => ⟨⟨p, q, s⟩, r⟩, fun ⟨⟨p, q, s⟩, r⟩ => ⟨p, ⟨q, r⟩, s⟩⟩
    · simp only [List.length_map, List.length_append, List.length_cons, List.length_nil]
      omega
  | false =>
    rw [e3 hu]
    have ec : edgesAt a.length (cutE false (.stop lo hi)) (transfer a) = uppE a.length hi (transfer a) := rfl
    rw [ec]
    refine ⟨fun y hy => ?_, fun z => ?_, ?_⟩
    · rw [List.mem_map] at hy ⊢
      obtain ⟨w, hw, e⟩ := hy
      refine ⟨w, ?_, e⟩
      simp only [List.mem_append] at hw ⊢
      rcases hw with hw | hw | hw
      · exact .inl hw
      · exact .inr (.inl (.inr hw))
      · exact .inr (.inr hw)
    · rw [rg, rg, rg, rg, rg, one]
      exact ⟨fun ⟨p, ⟨q, r⟩, s⟩ => ⟨⟨p, r, s⟩, q⟩, fun ⟨⟨p, r, s⟩, q⟩ => ⟨p, ⟨q, r⟩, s⟩⟩
    · simp only [List.length_map, List.length_append, List.length_cons, List.length_nil]
      omega
theorem wo_map {es : List El} {x : Ed × Hp3} (h : x ∈ planesOf 0 idM es) : (∀ k, transfer ((woE es x.1).take k) = transfer (es.take k)) ∧ (woE es x.1).length = es.length := by
  obtain ⟨a, lo, hi, b, rfl, e2, e3, e4⟩ := edge_split h
  have ex : x.1 = (a.length, x.1.2) := Prod.ext e2 rfl
  rw [ex, woE_split]
  refine ⟨fun k => ?_, by simp⟩
  rw [List.take_append, List.take_append, transfer_append, transfer_append]
  congr 1
  cases k - a.length with
  | zero => rfl
  | succ j =>
    rw [List.take_succ_cons, List.take_succ_cons, transfer_cons, transfer_cons, elM_cut]
    rfl
theorem cut_z' {N : Nat} {up : Bool} {e : El} (h : ElZ N e) : ElZ N (cutE up e) := by
  cases e with
  | stop lo hi =>
    cases up with
    | true => exact ⟨h.1, fun q e => nomatch e⟩
    | false => exact ⟨(fun q e => nomatch e), h.2⟩
  | gap g => exact h
  | lens p c => exact h
  | prism g => exact h
  | afocal g => exact h
theorem wo_tz {N : Nat} {es : List El} {x : Ed × Hp3} (T : Tz N es) (h : x ∈ planesOf 0 idM es) : Tz N (woE es x.1) := by
  refine ⟨?_, fun k => by rw [(wo_map h).1]; exact T.pre k⟩
  obtain ⟨a, lo, hi, b, rfl, e2, e3, e4⟩ := edge_split h
  have ex : x.1 = (a.length, x.1.2) := Prod.ext e2 rfl
  rw [ex, woE_split]
  intro e he
  rcases List.mem_append.mp he with he | he
  · exact T.el e (List.mem_append_left _ he)
  · rcases List.mem_cons.mp he with rfl | he
    · exact cut_z' (T.el _ (List.mem_append_right _ List.mem_cons_self))
    · exact T.el e (List.mem_append_right _ (List.mem_cons_of_mem _ he))
theorem wo_tp {N n : Nat} {es : List El} {x : Ed × Hp3} (T : Tp N n es) (h : x ∈ planesOf 0 idM es) : Tp N n (woE es x.1) :=
  ⟨wo_tz T.tz h, by rw [(wo_map h).2]; exact T.len, fun g hg => T.hz g ((wo_planes h).1 g hg), by have := (wo_planes h).2.2; have := T.ln; omega⟩
def redL (es : List El) : List Ed := ((planesOf 0 idM es).filter fun x => impB (plT (woE es x.1)) x.2).map (·.1)
theorem red_mem {es : List El} {e : Ed} {r : List Ed} (h : redL es = e :: r) : ∃ x ∈ planesOf 0 idM es, x.1 = e ∧ impB (plT (woE es x.1)) x.2 = true := by
  have : e ∈ redL es := by rw [h]; exact List.mem_cons_self
  obtain ⟨x, hx, rfl⟩ := List.mem_map.mp this
  obtain ⟨h1, h2⟩ := List.mem_filter.mp hx
  exact ⟨x, h1, rfl, h2⟩
structure Sm1 (N n : Nat) (es fs : List El) : Prop where
  tp : Tp N n fs
  rg : ∀ z, Rg (plT es) z ↔ Rg (plT fs) z
  tr : transfer fs = transfer es
  ln : fs.length = es.length
  pl : ∀ g ∈ plT fs, g ∈ plT es
theorem Sm1.step {N n : Nat} {es fs : List El} {e : Ed} {r : List Ed} (S : Sm1 N n es fs) (h : redL fs = e :: r) : Sm1 N n es (woE fs e) ∧ (plT (woE fs e)).length + 1 = (plT fs).length ∧ ∃ x ∈ planesOf 0 idM fs, x.1 = e := by
  obtain ⟨x, hx, rfl, hi⟩ := red_mem h
  obtain ⟨w1, w2, w3⟩ := wo_planes hx
  obtain ⟨m1, m2⟩ := wo_map hx
  have T := wo_tp S.tp hx
  have hd : ∀ k ∈ plT (woE fs x.1), Dir k := fun k hk => by
    obtain ⟨y, hy, rfl⟩ := List.mem_map.mp hk
    exact (planes_dir T.tz.ok y hy).1
  refine ⟨⟨T, fun z => ?_, ?_, by rw [m2]; exact S.ln, fun g hg => S.pl g (w1 g hg)⟩, w3, x, hx, rfl⟩
  · rw [S.rg, w2]
    exact ⟨fun h => h.1, fun h => ⟨h, (imp_iff hd).mp hi z h⟩⟩
  · have := m1 (woE fs x.1).length
    rw [List.take_length, m2, List.take_length] at this
    rw [this, S.tr]

end B
end PG

set_option maxRecDepth 100000
set_option maxHeartbeats 4000000

namespace PG
namespace B
open PySem PySem.Spec PyProof.Rows L2 RT
section
variable {st : List Cell} {Q : Vl → List Cell → Prop}
end
end B
end PG

set_option maxRecDepth 100000
set_option maxHeartbeats 4000000

namespace PG
namespace B
open PySem PySem.Spec PyProof.Rows L2 RT
theorem rtri (a b : Rat) : a < b ∨ a = b ∨ b < a := by grind
end B
end PG

set_option maxRecDepth 100000
set_option maxHeartbeats 4000000

namespace PG
namespace B
open PySem PySem.Spec PyProof.Rows L2 RT
theorem both_ways {z d : Ray} : ∀ {hs : List Hp3}, Rg hs z → (∀ k ∈ hs, valH k z < (k.r : Rat) ∨ valH k d = 0) → ∃ t : Rat, 0 < t ∧ ∀ s, -t ≤ s → s ≤ t → Rg hs (z.1 + s * d.1, z.2 + s * d.2)
  | [], _, _ => ⟨1, by decide, fun _ _ _ _ h => nomatch h⟩
  | k :: hs, hz, h => by
    obtain ⟨t, t0, ht⟩ := both_ways (hs := hs) (fun g hg => hz g (List.mem_cons_of_mem _ hg)) fun g hg => h g (List.mem_cons_of_mem _ hg)
    have val : ∀ s : Rat, valH k (z.1 + s * d.1, z.2 + s * d.2) = valH k z + s * valH k d := fun s => by
      unfold valH
      dsimp only
      grind
    rcases h k List.mem_cons_self with c | c
    · obtain ⟨v, v0, hv⟩ : ∃ v : Rat, 0 < v ∧ ∀ s, -v ≤ s → s ≤ v → valH k z + s * valH k d ≤ (k.r : Rat) := by
        generalize valH k z = a at *
        generalize valH k d = b at *
        generalize (k.r : Rat) = r at *
        rcases rtri b 0 with b0 | b0 | b0
        · refine ⟨(r - a) / -b, ?_, fun s h1 h2 => ?_⟩
          · rw [Rat.div_def]
            exact Rat.mul_pos (by grind) (Rat.inv_pos.mpr (by grind))
          · have e : (r - a) / -b * -b = r - a := Rat.div_mul_cancel (by grind)
            have := Rat.mul_le_mul_of_nonneg_right h1 (show 0 ≤ -b by grind)
            grind
        · exact ⟨1, by decide, fun s _ _ => by rw [b0]; grind⟩
        · refine ⟨(r - a) / b, ?_, fun s h1 h2 => ?_⟩
          · rw [Rat.div_def]
            exact Rat.mul_pos (by grind) (Rat.inv_pos.mpr b0)
          · have e : (r - a) / b * b = r - a := Rat.div_mul_cancel (by grind)
            have := Rat.mul_le_mul_of_nonneg_right h2 (show 0 ≤ b by grind)
            grind
      by_cases le : t ≤ v
      · refine ⟨t, t0, fun s h1 h2 g hg => ?_⟩
        rcases List.mem_cons.mp hg with rfl | hg
        · rw [val]
          exact hv s (by grind) (by grind)
        · exact ht s h1 h2 g hg
      · refine ⟨v, v0, fun s h1 h2 g hg => ?_⟩
        rcases List.mem_cons.mp hg with rfl | hg
        · rw [val]
          exact hv s h1 h2
        · exact ht s (by grind) (by grind) g hg
    · refine ⟨t, t0, fun s h1 h2 g hg => ?_⟩
      rcases List.mem_cons.mp hg with rfl | hg
      · rw [val, c]
        have := hz g List.mem_cons_self
        grind
      · exact ht s h1 h2 g hg

def turnR (f x y : Ray) : Rat := (x.1 - f.1) * (y.2 - f.2) - (x.2 - f.2) * (y.1 - f.1)

def dn (x : Ray) : Nat := x.1.den * x.2.den
end B
end PG

set_option maxRecDepth 100000
set_option maxHeartbeats 4000000

namespace PG
namespace B
open PySem PySem.Spec PyProof.Rows L2 RT
def mv (x : Ray) (t : Rat) (d : Ray) : Ray := (x.1 + t * d.1, x.2 + t * d.2)
def dvec (g : Hp3) : Ray := (-(g.q : Rat), (g.p : Rat))
theorem val_mv (k : Hp3) (x d : Ray) (t : Rat) : valH k (mv x t d) = valH k x + t * valH k d := by
  unfold valH mv
  dsimp only
  grind
theorem val_dvec (g : Hp3) : valH g (dvec g) = 0 := by
  unfold valH dvec
  dsimp only
  grind
def sq (g : Hp3) : Rat := (g.p : Rat) * g.p + (g.q : Rat) * g.q
theorem sq_pos {g : Hp3} (h : Dir g) : 0 < sq g := n2_pos h.rat
theorem no_corner {hs : List Hp3} {z : Ray} (hz : Rg hs z) (hc : z ∉ corners hs) {g : Hp3} (hg : g ∈ hs) (eg : valH g z = (g.r : Rat)) : ∃ t : Rat, 0 < t ∧ Rg hs (mv z t (dvec g)) ∧ Rg hs (mv z (-t) (dvec g)) := by
  have hm := corner_mid hz
  rw [decide_eq_false hc] at hm
  have hm : midB hs z = true := by simpa using hm
  have hmm : ∀ k ∈ act hs z, dt g k = 0 := fun k hk => of_decide_eq_true (List.all_eq_true.mp (List.all_eq_true.mp hm g (act_mem.mpr ⟨hg, eg⟩)) k hk)
  obtain ⟨t, t0, ht⟩ := both_ways (d := dvec g) hz fun k hk => by
    by_cases c : valH k z = (k.r : Rat)
    · right
      have := hmm k (act_mem.mpr ⟨hk, c⟩)
      unfold dt at this
      have e : ((g.p * k.q - g.q * k.p : Int) : Rat) = 0 := by rw [this]; rfl
      rw [Rat.intCast_sub, castM2, castM2] at e
      unfold valH dvec
      dsimp only
      grind
    · exact .inl (Rat.lt_of_le_of_ne (hz k hk) c)
  exact ⟨t, t0, ht t (by grind) (by grind), ht (-t) (by grind) (by grind)⟩
theorem corner_no {hs : List Hp3} {c d : Ray} {s t : Rat} (hd : ¬ (d.1 = 0 ∧ d.2 = 0)) (hc : c ∈ corners hs) (h1 : Rg hs (mv c s d)) (h2 : Rg hs (mv c t d)) (hs0 : s < 0) (ht : 0 < t) : False := by
  obtain ⟨_, a, ha, b, hb, e⟩ := corners_mem.mp hc
  obtain ⟨d0, ea, eb⟩ := meet_val e
  have par : ∀ k ∈ hs, valH k c = (k.r : Rat) → valH k d = 0 := fun k hk ek => by
    have a := h1 k hk
    have b := h2 k hk
    rw [val_mv] at a b
    have a : s * valH k d ≤ 0 := by grind
    have b : t * valH k d ≤ 0 := by grind
    generalize valH k d = z at *
    rcases rtri z 0 with c | c | c
    · have := Rat.mul_pos (show 0 < -s by grind) (show 0 < -z by grind)
      grind
    · exact c
    · have := Rat.mul_pos ht c
      grind
  have pa := par a ha ea
  have pb := par b hb eb
  unfold valH at pa pb
  apply d0
  have n0 : 0 < d.1 * d.1 + d.2 * d.2 := n2_pos hd
  have key : (d.1 * d.1 + d.2 * d.2) * ((a.p : Rat) * b.q - (a.q : Rat) * b.p) = 0 := by grind
  rcases Rat.mul_eq_zero.mp key with z | z
  · grind
  · have : ((a.p * b.q - a.q * b.p : Int) : Rat) = ((0 : Int) : Rat) := by
      rw [Rat.intCast_sub, castM2, castM2]
      exact z
    exact Rat.intCast_inj.mp this
def Bd (hs : List Hp3) : Prop := ∃ b : Rat, 0 ≤ b ∧ ∀ z, Rg hs z → (-b ≤ z.1 ∧ z.1 ≤ b) ∧ -b ≤ z.2 ∧ z.2 ≤ b
theorem Bd.lin {hs : List Hp3} (h : Bd hs) (a b : Rat) : ∃ m, ∀ z, Rg hs z → lin2 a b z ≤ m := by
  obtain ⟨B, B0, hB⟩ := h
  have one : ∀ a v : Rat, -B ≤ v → v ≤ B → a * v ≤ (if 0 ≤ a then a * B else -a * B) := fun a v h1 h2 => by
    by_cases c : 0 ≤ a
    · rw [if_pos c]
      exact Rat.mul_le_mul_of_nonneg_left h2 c
    · rw [if_neg c]
      have := Rat.mul_le_mul_of_nonneg_left h1 (show 0 ≤ -a by grind)
      grind
  refine ⟨(if 0 ≤ a then a * B else -a * B) + (if 0 ≤ b then b * B else -b * B), fun z hz => ?_⟩
  obtain ⟨⟨h1, h2⟩, h3, h4⟩ := hB z hz
  have := one a z.1 h1 h2
  have := one b z.2 h3 h4
  unfold lin2
  grind
theorem Bd.sub {hs ks : List Hp3} (h : Bd hs) (hk : ∀ z, Rg ks z → Rg hs z) : Bd ks := by
  obtain ⟨B, B0, hB⟩ := h
  exact ⟨B, B0, fun z hz => hB z (hk z hz)⟩
theorem Bd.max {hs : List Hp3} (hd : ∀ g ∈ hs, Dir g) (h : Bd hs) {x0 : Ray} (hx : Rg hs x0) (a b : Rat) : ∃ y, Rg hs y ∧ ∀ z, Rg hs z → lin2 a b z ≤ lin2 a b y := by
  have s := sup_is (p := a) (q := b) hd hx
  obtain ⟨m, hm⟩ := h.lin a b
  cases e : supF a b hs with
  | none =>
    rw [e] at s
    obtain ⟨y, hy, h1⟩ := s (m + 1)
    have := hm y hy
    grind
  | some u =>
    rw [e] at s
    obtain ⟨h1, y, hy, h2⟩ := s
    exact ⟨y, hy, fun z hz => by rw [h2]; exact h1 z hz⟩
structure Edge (hs : List Hp3) (g : Hp3) (x y : Ray) (t : Rat) : Prop where
  gm : g ∈ hs
  hx : Rg hs x
  lx : valH g x = (g.r : Rat)
  hy : Rg hs y
  ey : y = mv x t (dvec g)
  t0 : 0 ≤ t
  all : ∀ z, Rg hs z → valH g z = (g.r : Rat) → ∃ s, 0 ≤ s ∧ s ≤ t ∧ z = mv x s (dvec g)
theorem mv_mv (x d : Ray) (s t : Rat) : mv (mv x s d) t d = mv x (s + t) d := by
  unfold mv
  exact Prod.ext (by dsimp only; grind) (by dsimp only; grind)
theorem mv_inj {g : Hp3} (hg : Dir g) {x : Ray} {s t : Rat} (h : mv x s (dvec g) = mv x t (dvec g)) : s = t := by
  unfold mv dvec at h
  have h1 := (Prod.ext_iff.mp h).1
  have h2 := (Prod.ext_iff.mp h).2
  dsimp only at h1 h2
  have n0 := sq_pos hg
  unfold sq at n0
  have : (s - t) * ((g.p : Rat) * g.p + (g.q : Rat) * g.q) = 0 := by grind
  rcases Rat.mul_eq_zero.mp this with z | z <;> grind
theorem Edge.cx {hs : List Hp3} {g : Hp3} {x y : Ray} {t : Rat} (hg : Dir g) (E : Edge hs g x y t) : x ∈ corners hs := by
  refine Classical.byContradiction fun c => ?_
  obtain ⟨e, e0, h1, h2⟩ := no_corner E.hx c E.gm E.lx
  obtain ⟨s, s0, s1, es⟩ := E.all _ h2 (by rw [val_mv, val_dvec, E.lx]; grind)
  have := mv_inj hg es
  grind
theorem Edge.only {hs : List Hp3} {g : Hp3} {x y c : Ray} {t : Rat} (hg : Dir g) (E : Edge hs g x y t) (hc : c ∈ corners hs) (ec : valH g c = (g.r : Rat)) : c = x ∨ c = y := by
  obtain ⟨s, s0, s1, es⟩ := E.all c (corners_mem.mp hc).1 ec
  have nz : ¬ ((dvec g).1 = 0 ∧ (dvec g).2 = 0) := fun h => hg.rat ⟨h.2, by have := h.1; unfold dvec at this; dsimp only at this; grind⟩
  by_cases c0 : s = 0
  · left
    rw [es, c0]
    unfold mv
    exact Prod.ext (by dsimp only; grind) (by dsimp only; grind)
  by_cases c1 : s = t
  · right
    rw [es, c1, E.ey]
  exfalso
  refine corner_no (s := -s) (t := t - s) nz hc ?_ ?_ (by grind) (by grind)
  · rw [es, mv_mv, show s + -s = 0 by grind]
    have : mv x 0 (dvec g) = x := by unfold mv; exact Prod.ext (by dsimp only; grind) (by dsimp only; grind)
    rw [this]
    exact E.hx
  · rw [es, mv_mv, show s + (t - s) = t by grind, ← E.ey]
    exact E.hy
end B
end PG

set_option maxRecDepth 100000
set_option maxHeartbeats 4000000

namespace PG
namespace B
open PySem PySem.Spec PyProof.Rows L2 RT
structure IsF (hs : List Hp3) (f : Ray) : Prop where
  c : f ∈ corners hs
  le : ∀ z, Rg hs z → f.1 < z.1 ∨ (f.1 = z.1 ∧ f.2 ≤ z.2)
structure IsL (hs : List Hp3) (l : Ray) : Prop where
  c : l ∈ corners hs
  le : ∀ z, Rg hs z → z.1 < l.1 ∨ (z.1 = l.1 ∧ z.2 ≤ l.2)
variable {hs : List Hp3} {f l : Ray}
structure LowP (hs : List Hp3) (f l x y : Ray) : Prop where
  xc : x ∈ corners hs
  yc : y ∈ corners hs
  lt : befR x y = true
  xl : x = f ∨ turnR f l x < 0
  yl : y = l ∨ turnR f l y < 0
  no : ∀ c ∈ corners hs, turnR f l c < 0 → befR x c = true → befR c y = true → False
end B
end PG

set_option maxRecDepth 100000
set_option maxHeartbeats 4000000

namespace PG
namespace B
open PySem PySem.Spec PyProof.Rows L2 RT
def neg (z : Ray) : Ray := (-z.1, -z.2)
theorem neg_neg (z : Ray) : neg (neg z) = z := Prod.ext (by show - -z.1 = z.1; grind) (by show - -z.2 = z.2; grind)
structure UpP (hs : List Hp3) (f l x y : Ray) : Prop where
  xc : x ∈ corners hs
  yc : y ∈ corners hs
  lt : befR x y = true
  xl : x = f ∨ 0 < turnR f l x
  yl : y = l ∨ 0 < turnR f l y
  no : ∀ c ∈ corners hs, 0 < turnR f l c → befR x c = true → befR c y = true → False
section
variable {hs : List Hp3} {f l : Ray}
end

def prs {α : Type} : List α → List (α × α)
  | x :: y :: r => (x, y) :: prs (y :: r)
  | _ => []
theorem prs_mem : ∀ {L : List Ray}, SrtR L → ∀ {x y : Ray}, (x, y) ∈ prs L ↔ x ∈ L ∧ y ∈ L ∧ befR x y = true ∧ ∀ c ∈ L, befR x c = true → befR c y = true → False
  | [], _, x, y => ⟨(fun h => nomatch h), (fun h => nomatch h.1)⟩
  | [a], _, x, y => by
    refine ⟨(fun h => nomatch h), fun ⟨h1, h2, h3, _⟩ => ?_⟩
    rw [List.mem_singleton.mp h1, List.mem_singleton.mp h2, befR_irrefl] at h3
    exact nomatch h3
  | a :: b :: r, s, x, y => by
    obtain ⟨sa, sr⟩ := List.pairwise_cons.mp s
    have irr : ∀ {c : Ray}, befR c c = true → False := fun {c} h => by
      rw [befR_irrefl] at h
      exact nomatch h
    have asym : ∀ {c d : Ray}, befR c d = true → befR d c = true → False := fun {c d} h h' => by
      rw [befR_asymm h] at h'
      exact nomatch h'
    have ab := sa b List.mem_cons_self
    show (x, y) ∈ (a, b) :: prs (b :: r) ↔ _
    rw [List.mem_cons, prs_mem sr]
    constructor
    · rintro (e | ⟨h1, h2, h3, h4⟩)
      · cases e
        refine ⟨List.mem_cons_self, List.mem_cons_of_mem _ List.mem_cons_self, ab, fun c hc h1 h2 => ?_⟩
        rcases List.mem_cons.mp hc with rfl | hc
        · exact irr h1
        rcases List.mem_cons.mp hc with rfl | hc
        · exact irr h2
        · exact asym ((List.pairwise_cons.mp sr).1 c hc) h2
      · refine ⟨List.mem_cons_of_mem _ h1, List.mem_cons_of_mem _ h2, h3, fun c hc g1 g2 => ?_⟩
        rcases List.mem_cons.mp hc with rfl | hc
        · exact asym (sa x h1) g1
        · exact h4 c hc g1 g2
    · rintro ⟨h1, h2, h3, h4⟩
      have yb : y ∈ b :: r := by
        rcases List.mem_cons.mp h2 with rfl | h
        · rcases List.mem_cons.mp h1 with rfl | h
          · exact (irr h3).elim
          · exact (asym (sa x h) h3).elim
        · exact h
      rcases List.mem_cons.mp h1 with rfl | h
      · left
        rcases List.mem_cons.mp yb with rfl | hy
        · rfl
        · exact (h4 b (List.mem_cons_of_mem _ List.mem_cons_self) ab ((List.pairwise_cons.mp sr).1 y hy)).elim
      · exact .inr ⟨h, yb, h3, fun c hc => h4 c (List.mem_cons_of_mem _ hc)⟩
end B
end PG

set_option maxRecDepth 100000
set_option maxHeartbeats 4000000

namespace PG
namespace B
open PySem PySem.Spec PyProof.Rows L2 RT
def dd : List Hp3 → List Hp3
  | [] => []
  | g :: r => if g ∈ r then dd r else g :: dd r
open Classical in
noncomputable def ed (hs : List Hp3) (g : Hp3) : Ray × Ray × Rat := if h : ∃ w : Ray × Ray × Rat, Edge hs g w.1 w.2.1 w.2.2 then Classical.choose h else ((0, 0), (0, 0), 0)
noncomputable def T (hs : List Hp3) (g : Hp3) : Rat := (ed hs g).2.2
def cross (e : Ray × Ray) : Rat := e.1.1 * e.2.2 - e.1.2 * e.2.1
noncomputable def E2 (hs : List Hp3) : List (Ray × Ray) := ((dd hs).filter fun g => decide (0 < T hs g)).map fun g => ((ed hs g).1, (ed hs g).2.1)
section
variable {hs : List Hp3} {f l : Ray} {mid : List Ray}
end
end B
end PG

set_option maxRecDepth 100000
set_option maxHeartbeats 4000000

namespace PG
namespace B
open PySem PySem.Spec PyProof.Rows L2 RT
noncomputable def twoA (hs : List Hp3) : Rat := ((dd hs).map fun g => T hs g * (g.r : Rat)).sum
section
variable {hs : List Hp3} {f l : Ray} {mid : List Ray}
end
def Inn (hs : List Hp3) (x : Ray) : Prop := ∀ g ∈ hs, valH g x < (g.r : Rat)
theorem Inn.rg {hs : List Hp3} {x : Ray} (h : Inn hs x) : Rg hs x := fun g hg => by
  have := h g hg
  grind
end B
end PG

set_option maxRecDepth 100000
set_option maxHeartbeats 4000000

namespace PG
namespace B
open PySem PySem.Spec PyProof.Rows L2 RT
def Pm (g : Hp3) : Prop := Dir g ∧ gcd3 g.p g.q g.r = 1
def oppH (g : Hp3) : Hp3 := ⟨-g.p, -g.q, -g.r⟩

theorem Edge.mono {hs ks : List Hp3} {g : Hp3} {x y : Ray} {t : Rat} (E : Edge hs g x y t) (gm : g ∈ ks) (hx : Rg ks x) (hy : Rg ks y) (h : ∀ z, Rg ks z → Rg hs z) : Edge ks g x y t :=
  ⟨gm, hx, E.lx, hy, E.ey, E.t0, fun z hz => E.all z (h z hz)⟩
end B
end PG

set_option maxRecDepth 100000
set_option maxHeartbeats 4000000

namespace PG
namespace B
open PySem PySem.Spec PyProof.Rows L2 RT
end B
end PG

set_option maxRecDepth 100000
set_option maxHeartbeats 4000000

namespace PG
namespace B
open PySem PySem.Spec PyProof.Rows L2 RT
section
variable {st : List Cell} {Q : Vl → List Cell → Prop}
theorem sgn_neg (x : Rat) : (decide (sgn (x - 0) < 0)) = decide (x < 0) := by
  have e : x - 0 = x := by grind
  rw [e]
  unfold sgn
  by_cases a : 0 < x
  · rw [if_pos a, decide_eq_false (show ¬ x < 0 by grind)]
    rfl
  · rw [if_neg a]
    by_cases b : x < 0
    · rw [if_pos b, decide_eq_true b]
      rfl
    · rw [if_neg b, decide_eq_false b]
      rfl
end
end B
end PG

set_option maxRecDepth 100000
set_option maxHeartbeats 4000000

namespace PG
namespace B
open PySem PySem.Spec PyProof.Rows L2 RT
def Pq (g : Hp3) : Prop := Pl g ∧ gcd3 g.p g.q g.r = 1
theorem Pq.pm {g : Hp3} (h : Pq g) : Pm g := ⟨h.1.1, h.2⟩
section
variable {ds : List Int} {i k : Nat} {st : List Cell} {Q : Vl → List Cell → Prop}
end
def Sm2 (g : Hp3) : Prop := Pm g ∧ ((g.p.natAbs ≤ 2 ∧ g.q.natAbs ≤ 2 ∧ g.r.natAbs ≤ 6) ∨ (g.q = 0 ∧ g.p.natAbs ≤ 3 ∧ g.r.natAbs ≤ 8) ∨ (g.p = 0 ∧ g.q.natAbs ≤ 3 ∧ g.r.natAbs ≤ 8))
theorem Sm2.hz {g : Hp3} (h : Sm2 g) : HZ 5 g := by
  have a : g.p.natAbs ≤ 8 ∧ g.q.natAbs ≤ 8 ∧ g.r.natAbs ≤ 8 := by
    rcases h.2 with ⟨a, b, c⟩ | ⟨a, b, c⟩ | ⟨a, b, c⟩
    · exact ⟨by omega, by omega, by omega⟩
    · exact ⟨by omega, by omega, by omega⟩
    · exact ⟨by omega, by omega, by omega⟩
  have l : ∀ {n : Nat}, n ≤ 8 → n.log2 ≤ 3 := fun {n} h => lg_le (k := 3) (by omega)
  exact ⟨by have := l a.1; omega, by have := l a.2.1; omega, by have := l a.2.2; omega⟩

theorem f1 : ¬ ((-1 : Rat) = 0 ∧ (0 : Rat) = 0) := fun c => absurd c.1 (by decide)
theorem f2 : ¬ ((1 : Rat) = 0 ∧ (0 : Rat) = 0) := fun c => absurd c.1 (by decide)
theorem f3 : ¬ ((0 : Rat) = 0 ∧ (-1 : Rat) = 0) := fun c => absurd c.2 (by decide)
end B
end PG

set_option maxRecDepth 100000
set_option maxHeartbeats 4000000

namespace PG
namespace B
open PySem PySem.Spec PyProof.Rows L2 RT
end B
end PG

set_option maxRecDepth 100000
set_option maxHeartbeats 4000000

namespace PG
namespace C
open PySem PySem.Spec PyProof.Rows L2 RT
theorem onK_mk {ds : List Dt} {ks : List Int} {k : List Int → Prop} (e : intsD ds = some ks) (h : k ks) : onK (.d (.tup ds)) k := by
  unfold onK
  simp only [e]
  exact h
theorem getK_var {kvs : List (List Int × Int)} {i : Nat} {m : M} {Q : Vl → M → Prop} {ds : List Dt} {ks : List Int} {v : Int} (hv : m.sl[i]? = some (some (.d (.tup ds)))) (e : intsD ds = some ks) (l : kvs.lookup ks = some v) (h : Q (.d (.int v)) m) :
    dGetK kvs (dVar i) m Q := by
  unfold dGetK dVar
  rw [hv]
  exact onK_mk e ⟨v, l, h⟩
theorem inK_var {kvs : List (List Int × Int)} {i : Nat} {m : M} {Q : Vl → M → Prop} {ds : List Dt} {ks : List Int} (hv : m.sl[i]? = some (some (.d (.tup ds)))) (e : intsD ds = some ks) (h : Q (.d (.bl (kvs.lookup ks).isSome)) m) :
    dInK kvs (dVar i) m Q := by
  unfold dInK dVar
  rw [hv]
  exact onK_mk e h
section
variable {st : List Cell} {Q : Vl → List Cell → Prop}
theorem form_ok {a b t : Rat} {z : Nat} (ha : zb a ≤ z) (hb : zb b ≤ z) (ht : zb t ≤ z) (hz : z ≤ 1000000) (h : Q (.d (fr (Fm t a b))) st) : sp_form_of [.d (fr a), .d (fr b), .d (fr t)] st Q := by
  unfold sp_form_of
  have m1 := zb_mul t a
  have m2 := zb_mul (t * a) b
  have m3 := zb_mul a a
  have m4 := zb_mul b b
  have m5 := zb_sub (a * a) (t * a * b)
  refine ⟨rfl, ?_⟩
  refine seq_to ⟨[some (.d (fr a)), some (.d (fr b)), some (.d (fr t)), some (.d (fr (t * a * b)))], st⟩ (fun K hK => multiply_ok (zm (by omega)) (multiply_ok (zm (by omega)) hK)) ?_
  refine multiply_ok (zm (by omega)) (subtract_ok (zm (by omega)) (multiply_ok (zm (by omega)) (add_ok (zm (by omega)) (tk ?_))))
  exact h
theorem form_z {a b t : Rat} {z : Nat} (ha : zb a ≤ z) (hb : zb b ≤ z) (ht : zb t ≤ z) : zb (Fm t a b) ≤ 7 * z := by
  have m1 := zb_mul t a
  have m2 := zb_mul (t * a) b
  have m3 := zb_mul a a
  have m4 := zb_mul b b
  have m5 := zb_sub (a * a) (t * a * b)
  have m6 := zb_add (a * a - t * a * b) (b * b)
  unfold Fm
  omega
theorem cycle_ok {a b t β : Rat} {z p : Nat} (hp : (t = -1 ∧ p = 3) ∨ (t = 0 ∧ p = 4) ∨ (t = 1 ∧ p = 6)) (ha : zb a ≤ z) (hb : zb b ≤ z) (hβ : zb β ≤ z) (hz : z ≤ 100000)
    (h : ∀ r : Bool, (r = true ↔ ∀ i, i < p → sq t a b i ≤ β) → Q (.d (.bl r)) st) : sp_cycle_holds [.d (fr a), .d (fr b), .d (fr t), .d (fr β)] st Q := by
  unfold sp_cycle_holds
  refine ⟨rfl, ?_⟩
  have tz : zb t ≤ 2 := by
    rcases hp with ⟨rfl, _⟩ | ⟨rfl, _⟩ | ⟨rfl, _⟩ <;> decide +kernel
  have key : ∃ ks, intsD [.int t.num, .int (t.den : Int)] = some ks ∧ k_CYCLES.lookup ks = some (p : Int) := by
    rcases hp with ⟨rfl, rfl⟩ | ⟨rfl, rfl⟩ | ⟨rfl, rfl⟩
    · exact ⟨[-1, 1], by decide +kernel, by decide +kernel⟩
    · exact ⟨[0, 1], by decide +kernel, by decide +kernel⟩
    · exact ⟨[1, 1], by decide +kernel, by decide +kernel⟩
  obtain ⟨ks, k1, k2⟩ := key
  have hp6 : p ≤ 6 := by omega
  let S : Option Vl → Rat → Rat → M := fun z4 x y => ⟨[some (.d (fr x)), some (.d (fr y)), some (.d (fr t)), some (.d (fr β)), z4], st⟩
  have zs : ∀ i, i ≤ 6 → zb (sq t a b i) ≤ 2 ^ i * (z + 2) ∧ zb (sq t a b (i + 1)) ≤ 2 ^ (i + 1) * (z + 2) := fun i => by
    induction i with
    | zero => exact fun _ => ⟨by show zb a ≤ _; omega, by show zb b ≤ _; omega⟩
    | succ i ih =>
      intro hi
      obtain ⟨h1, h2⟩ := ih (by omega)
      refine ⟨h2, ?_⟩
      show zb (sq t a b (i + 2)) ≤ _
      rw [sq_rec]
      have m1 := zb_mul t (sq t a b (i + 1))
      have m2 := zb_sub (t * sq t a b (i + 1)) (sq t a b i)
      have e1 : 2 ^ (i + 1 + 1) * (z + 2) = 2 * (2 ^ (i + 1) * (z + 2)) := by rw [Nat.pow_succ 2 (i + 1), Nat.mul_comm (2 ^ (i + 1)) 2, Nat.mul_assoc]
      have e2 : 2 ^ (i + 1) * (z + 2) = 2 * (2 ^ i * (z + 2)) := by rw [Nat.pow_succ 2 i, Nat.mul_comm (2 ^ i) 2, Nat.mul_assoc]
      have e3 : z + 2 ≤ 2 ^ i * (z + 2) := Nat.le_mul_of_pos_left _ (Nat.two_pow_pos i)
      omega
  have zs' : ∀ i, i ≤ 6 → zb (sq t a b i) ≤ 20000000 := fun i hi => by
    have := (zs i hi).1
    have : 2 ^ i * (z + 2) ≤ 2 ^ 6 * (z + 2) := Nat.mul_le_mul_right _ (Nat.pow_le_pow_right (by decide) hi)
    omega
  refine seq_mid (fun m => (∀ i, i < p → sq t a b i ≤ β) ∧ ∃ z4 x y, m = S z4 x y) (fun K hK => ?_) ?_
  · refine getK_var (ds := [.int t.num, .int (t.den : Int)]) rfl k1 k2 ?_
    refine ⟨⟨by omega, by omega⟩, ?_⟩
    refine range_inv (fun n lo m => 0 ≤ lo ∧ lo + n = p ∧ (∀ i : Nat, (i : Int) < lo → sq t a b i ≤ β) ∧ ∃ z4, m = S z4 (sq t a b lo.toNat) (sq t a b (lo.toNat + 1))) ?_ ?_ _ 0 _ ⟨Int.le_refl _, by
      show (0 : Int) + (((p : Int) - 0).toNat : Int) = p
      omega, fun i hi => by omega, none, rfl⟩
    · rintro n lo _ K2 hK2 ⟨l0, l1, lall, z4, rfl⟩
      obtain ⟨i, rfl⟩ : ∃ i : Nat, lo = (i : Int) := ⟨lo.toNat, by omega⟩
      rw [Int.toNat_natCast]
      have i6 : i < 6 := by omega
      have w1 := zs' i (by omega)
      have w2 := zs' (i + 1) (by omega)
      by_cases c : β < sq t a b i
      · refine ifs_t' (S (some (.d (.int (i : Int)))) (sq t a b i) (sq t a b (i + 1))) (fun K hK => is_less_ok (zm (by omega)) ?_) ?_
        · show K (decide (β < sq t a b i)) _
          rw [decide_eq_true c]
          exact hK
        · refine tk (h false ⟨fun z => (nomatch z), fun z => ?_⟩)
          have := z i (by omega)
          grind
      · refine guard_st (S (some (.d (.int (i : Int)))) (sq t a b i) (sq t a b (i + 1))) (fun K hK => is_less_ok (zm (by omega)) ?_) ?_
        · show K (decide (β < sq t a b i)) _
          rw [decide_eq_false c]
          exact hK
        · have m1 := zb_mul t (sq t a b (i + 1))
          refine multiply_ok (zm (by omega)) (subtract_ok (zm (by omega)) ?_)
          refine hK2 _ ⟨by omega, by omega, fun j hj => ?_, some (.d (.int (i : Int))), ?_⟩
          · by_cases e : j = i
            · rw [e]
              exact Rat.not_lt.mp c
            · exact lall j (by omega)
          · show S _ (sq t a b (i + 1)) (t * sq t a b (i + 1) - sq t a b i) = _
            rw [← sq_rec, show ((i : Int) + 1).toNat = i + 1 by omega]
    · rintro lo _ ⟨l0, l1, lall, z4, rfl⟩
      exact hK _ ⟨fun i hi => lall i (by omega), z4, _, _, rfl⟩
  rintro _ ⟨hall, z4, x, y, rfl⟩
  exact tk (h true ⟨fun _ => hall, fun _ => rfl⟩)
theorem ellipse_ok {a b t β : Rat} {z : Nat} (ha : zb a ≤ z) (hb : zb b ≤ z) (ht : zb t ≤ z) (hβ : zb β ≤ z) (hz : z ≤ 1000000) (hz2 : 4 ≤ z)
    (h : Q (.d (.bl (decide (0 ≤ β ∧ 4 * Fm t a b ≤ β * β * (4 - t * t))))) st) : sp_ellipse_holds [.d (fr a), .d (fr b), .d (fr t), .d (fr β)] st Q := by
  unfold sp_ellipse_holds
  refine ⟨rfl, ?_⟩
  have e4 : ((4 : Int) : Rat) = 4 := rfl
  have z4 : zb (4 : Rat) ≤ 4 := by decide +kernel
  by_cases c : β < 0
  · refine ifs_t' ⟨[some (.d (fr a)), some (.d (fr b)), some (.d (fr t)), some (.d (fr β)), none], st⟩ (fun K hK => sign_ok ⟨trivial, ?_⟩) ?_
    · show K (decide (sgn β < 0)) _
      rw [decide_eq_true ((PG.sgn_neg β).mpr c)]
      exact hK
    · rw [decide_eq_false (fun z => by grind)] at h
      exact tk h
  · refine guard_st ⟨[some (.d (fr a)), some (.d (fr b)), some (.d (fr t)), some (.d (fr β)), none], st⟩ (fun K hK => sign_ok ⟨trivial, ?_⟩) ?_
    · show K (decide (sgn β < 0)) _
      rw [decide_eq_false (fun z => c ((PG.sgn_neg β).mp z))]
      exact hK
    · have fz := form_z ha hb ht
      have m0 := zb_mul 4 (Fm t a b)
      have m1 := zb_mul β β
      have m2 := zb_mul t t
      have m3 := zb_sub 4 (t * t)
      have m4 := zb_mul (β * β) (4 - t * t)
      refine seq_to ⟨[some (.d (fr a)), some (.d (fr b)), some (.d (fr t)), some (.d (fr β)), some (.d (fr (4 * Fm t a b)))], st⟩ (fun K hK => ?_) ?_
      · refine frac1_ok ?_
        rw [e4]
        exact form_ok ha hb ht hz (multiply_ok (zm (by omega)) hK)
      · refine multiply_ok (zm (by omega)) ?_
        refine frac1_ok ?_
        rw [e4]
        refine multiply_ok (zm (by omega)) (subtract_ok (zm (by omega)) (multiply_ok (zm (by omega)) (is_at_most_ok (zm (by omega)) (tk ?_))))
        rw [show decide (0 ≤ β ∧ 4 * Fm t a b ≤ β * β * (4 - t * t)) = decide (4 * Fm t a b ≤ β * β * (4 - t * t)) from decide_eq_decide.mpr ⟨fun z => z.2, fun z => ⟨by grind, z⟩⟩] at h
        exact h
theorem eqD_zero {x : Rat} : eqD (fr x) (fr 0) = decide (x = 0) := eqD_fr
theorem turning_ok {a b β : Rat} {z : Nat} (ha : zb a ≤ z) (hb : zb b ≤ z) (hβ : zb β ≤ z) (hz : z ≤ 1000000)
    (h : Q (.d (.bl (decide (a + b = 0 ∧ a ≤ β ∧ b ≤ β)))) st) : sp_turning_holds [.d (fr a), .d (fr b), .d (fr β)] st Q := by
  unfold sp_turning_holds
  refine ⟨rfl, ?_⟩
  by_cases c : a + b = 0
  · refine guard_st ⟨[some (.d (fr a)), some (.d (fr b)), some (.d (fr β))], st⟩ (fun K hK => add_ok (zm (by omega)) ⟨sh_fr', sh_fr' (q := 0), ?_⟩) ?_
    · show K (!eqD (fr (a + b)) (fr 0)) _
      rw [eqD_zero, decide_eq_true c]
      exact hK
    · refine is_at_most_ok (zm (by omega)) ?_
      by_cases c1 : a ≤ β
      · refine Eq.mp (if_pos (decide_eq_true c1)).symm (is_at_most_ok (zm (by omega)) (tk ?_))
        rw [show decide (a + b = 0 ∧ a ≤ β ∧ b ≤ β) = decide (b ≤ β) from decide_eq_decide.mpr ⟨fun z => z.2.2, fun z => ⟨c, c1, z⟩⟩] at h
        exact h
      · refine Eq.mp (if_neg (by rw [decide_eq_false c1]; decide)).symm (tk ?_)
        rw [decide_eq_false fun z => c1 z.2.1] at h
        exact h
  · refine ifs_t' ⟨[some (.d (fr a)), some (.d (fr b)), some (.d (fr β))], st⟩ (fun K hK => add_ok (zm (by omega)) ⟨sh_fr', sh_fr' (q := 0), ?_⟩) ?_
    · show K (!eqD (fr (a + b)) (fr 0)) _
      rw [eqD_zero, decide_eq_false c]
      exact hK
    · rw [decide_eq_false fun z => c z.1] at h
      exact tk h
end
end C
end PG

set_option maxRecDepth 100000
set_option maxHeartbeats 4000000

namespace PG
namespace C
open PySem PySem.Spec PyProof.Rows L2 RT
section
variable {D V q0 T N : Nat} {t a b β : Rat}
theorem Nums.tin (n : Nums D V q0 T N t a b β) : In q0 T t := by
  obtain ⟨p, hp⟩ := n.tp
  refine ⟨p, hp, ?_⟩
  obtain ⟨d0, q1, v0, t1⟩ := n.pos
  have a1 := mul_le n.t1 (Rat.le_of_lt q1)
  have a2 := mul_le n.t2 (Rat.le_of_lt q1)
  have e1 : (p : Rat) ≤ ((T * q0 : Nat) : Int) := by
    rw [← hp, Rat.intCast_natCast, Rat.natCast_mul]
    grind
  have e2 : ((-((T * q0 : Nat) : Int) : Int) : Rat) ≤ (p : Rat) := by
    rw [← hp, Rat.intCast_neg, Rat.intCast_natCast, Rat.natCast_mul]
    grind
  have e1 := Rat.intCast_le_intCast.mp e1
  have e2 := Rat.intCast_le_intCast.mp e2
  omega
theorem Nums.sqIn (n : Nums D V q0 T N t a b β) (i : Nat) : In (D * q0 ^ i) (V * (T + 1) ^ i) (C.sq t a b i) ∧ In (D * q0 ^ (i + 1)) (V * (T + 1) ^ (i + 1)) (C.sq t a b (i + 1)) := by
  induction i with
  | zero =>
    refine ⟨by rw [Nat.pow_zero, Nat.pow_zero, Nat.mul_one, Nat.mul_one]; exact n.a, ?_⟩
    rw [Nat.pow_one, Nat.pow_one]
    exact in_le (Nat.le_mul_of_pos_right _ (by omega)) (in_up n.q0' n.b)
  | succ i ih =>
    obtain ⟨h1, h2⟩ := ih
    refine ⟨h2, ?_⟩
    show In _ _ (C.sq t a b (i + 2))
    rw [sq_rec]
    have m := in_mul n.tin h2
    have e1 : q0 * (D * q0 ^ (i + 1)) = D * q0 ^ (i + 1 + 1) := by
      rw [Nat.pow_succ q0 (i + 1), Nat.mul_left_comm, Nat.mul_comm q0]
    rw [e1] at m
    have u := in_up (k := q0 * q0) (Nat.mul_pos n.q0' n.q0') h1
    have e2 : D * q0 ^ i * (q0 * q0) = D * q0 ^ (i + 1 + 1) := by
      rw [Nat.pow_succ, Nat.pow_succ, Nat.mul_assoc, Nat.mul_assoc]
    rw [e2] at u
    refine in_le ?_ (in_sub m u)
    have e3 : V * (T + 1) ^ (i + 1 + 1) = T * (V * (T + 1) ^ (i + 1)) + V * (T + 1) ^ (i + 1) := by
      rw [Nat.pow_succ (T + 1) (i + 1), ← Nat.mul_assoc, Nat.mul_add, Nat.mul_one, Nat.mul_comm _ T]
    rw [e3]
    have : V * (T + 1) ^ i ≤ V * (T + 1) ^ (i + 1) := Nat.mul_le_mul_left _ (Nat.pow_le_pow_right (by omega) (by omega))
    omega
theorem Nums.sqZ (n : Nums D V q0 T N t a b β) {s : Nat} (hD : D < 2 ^ s) (hV : V < 2 ^ s) (hq : q0 ≤ 16) (hT : T < 16) (i : Nat) : zb (C.sq t a b i) ≤ 2 * s + 8 * i + 3 := by
  have h := (n.sqIn i).1
  have p1 : q0 ^ i ≤ 2 ^ (4 * i) := by
    rw [Nat.pow_mul]
    exact Nat.pow_le_pow_left hq i
  have p2 : (T + 1) ^ i ≤ 2 ^ (4 * i) := by
    rw [Nat.pow_mul]
    exact Nat.pow_le_pow_left (by omega) i
  have lt : ∀ {x y e f : Nat}, x < 2 ^ e → y ≤ 2 ^ f → x * y < 2 ^ (e + f) := fun {x y e f} h1 h2 => by
    rw [Nat.pow_add]
    exact Nat.lt_of_le_of_lt (Nat.mul_le_mul_left _ h2) (Nat.mul_lt_mul_of_pos_right h1 (Nat.two_pow_pos f))
  have d1 := lt hD p1
  have v1 := lt hV p2
  have both : V * (T + 1) ^ i * (D * q0 ^ i) < 2 ^ (2 * s + 8 * i + 1) := by
    have := lt v1 (Nat.le_of_lt d1)
    refine Nat.lt_of_lt_of_le this (Nat.pow_le_pow_right (by decide) (by omega))
  exact in_zb (b := 2 * s + 8 * i + 1) (Nat.mul_pos n.D0 (Nat.pow_pos n.q0')) h both (Nat.lt_of_lt_of_le d1 (Nat.pow_le_pow_right (by decide) (by omega))) (by omega)
end
section
variable {st : List Cell} {Q : Vl → List Cell → Prop} {D V q0 T N : Nat} {t a b β : Rat}
def All (t a b β : Rat) (r : Bool) : Prop := r = true ↔ ∀ j, sq t a b j ≤ β
theorem line_ok2 (n : Nums D V q0 T N t a b β) (ht : 5 / 2 ≤ t ∨ t ≤ -(5 / 2)) (hf : Fm t a b = 0) {z : Nat} (ha : zb a ≤ z) (hb : zb b ≤ z) (hβ : zb β ≤ z) (hz : z ≤ 1000000) (h : ∀ r, All t a b β r → Q (.d (.bl r)) st) :
    sp_line_holds [.d (fr a), .d (fr b), .d (fr β)] st Q := by
  unfold sp_line_holds
  refine ⟨rfl, ?_⟩
  let S : M := ⟨[some (.d (fr a)), some (.d (fr b)), some (.d (fr β))], st⟩
  have fls : ∀ j, β < C.sq t a b j → All t a b β false := fun j hj => ⟨fun z => (nomatch z), fun z => by
    have := z j
    grind⟩
  by_cases c1 : a ≤ β
  · by_cases c2 : b ≤ β
    · refine guard_st S (fun K hK => ?_) ?_
      · refine is_at_most_ok (zm (by omega)) ?_
        refine Eq.mp (if_neg (by rw [decide_eq_true c1]; decide)).symm ?_
        refine is_at_most_ok (zm (by omega)) ?_
        show K (!decide (b ≤ β)) _
        rw [decide_eq_true c2]
        exact hK
      have m1 := zb_mul a a
      have m2 := zb_mul b b
      by_cases c3 : a * a < b * b
      · refine ifs_t' S (fun K hK => ?_) ?_
        · refine multiply_ok (zm (by omega)) (multiply_ok (zm (by omega)) (is_less_ok (zm (by omega)) ?_))
          show K (decide (a * a < b * b)) _
          rw [decide_eq_true c3]
          exact hK
        · refine sign_ok ⟨trivial, ?_⟩
          by_cases c4 : a < 0
          · refine Eq.mp (if_pos (decide_eq_true ((PG.sgn_neg a).mpr c4))).symm ?_
            refine sign_ok ⟨trivial, ?_⟩
            refine tk (h _ ?_)
            rw [show decide (sgn b < 0) = decide (b < 0) from decide_eq_decide.mpr (PG.sgn_neg b)]
            by_cases c5 : b < 0
            · rw [decide_eq_true c5]
              refine ⟨fun _ j => ?_, fun _ => rfl⟩
              have t0 : 5 / 2 ≤ t := by
                rcases ht with h | h
                · exact h
                · exfalso
                  have p1 := Rat.mul_pos (show 0 < -a by grind) (show 0 < -b by grind)
                  have := mul_le (show t ≤ 0 by grind) (Rat.le_of_lt p1)
                  have := Rat.mul_pos (show 0 < -a by grind) (show 0 < -a by grind)
                  have := Rat.mul_pos (show 0 < -b by grind) (show 0 < -b by grind)
                  unfold Fm at hf
                  grind
              have ab : b ≤ a := by
                refine Classical.byContradiction fun no => ?_
                have := Rat.mul_pos (show 0 < b - a by grind) (show 0 < -(a + b) by grind)
                grind
              have := fall t0 j (Rat.le_of_lt c4) ab
              grind
            · rw [decide_eq_false c5]
              obtain ⟨j, _, hj⟩ := n.lines ht hf c3 fun z => c5 z.2
              exact fls j (by have := (in_abs n.D0 n.β).1; grind)
          · refine Eq.mp (if_neg (by rw [decide_eq_false fun z => c4 ((PG.sgn_neg a).mp z)]; decide)).symm ?_
            refine tk (h _ ?_)
            obtain ⟨j, _, hj⟩ := n.lines ht hf c3 fun z => c4 z.1
            exact fls j (by have := (in_abs n.D0 n.β).1; grind)
      · refine guard_st S (fun K hK => ?_) ?_
        · refine multiply_ok (zm (by omega)) (multiply_ok (zm (by omega)) (is_less_ok (zm (by omega)) ?_))
          show K (decide (a * a < b * b)) _
          rw [decide_eq_false c3]
          exact hK
        · refine sign_ok ⟨trivial, ?_⟩
          refine tk (h _ ?_)
          have c3 := Rat.not_lt.mp c3
          by_cases c4 : 0 ≤ β
          · rw [decide_eq_true (show (0 : Int) ≤ sgn β by
              have := PG.sgn_neg β
              have : ¬ sgn β < 0 := fun z => by
                have := this.mp z
                grind
              omega)]
            exact ⟨fun _ j => (line_ge hf c3 c1 c2 c4 j).1, fun _ => rfl⟩
          · rw [decide_eq_false (show ¬ (0 : Int) ≤ sgn β by
              have := (PG.sgn_neg β).mpr (by grind)
              omega)]
            exact fls N (n.lt0 ht hf c3 (by grind))
    · refine ifs_t' S (fun K hK => ?_) ?_
      · refine is_at_most_ok (zm (by omega)) ?_
        refine Eq.mp (if_neg (by rw [decide_eq_true c1]; decide)).symm ?_
        refine is_at_most_ok (zm (by omega)) ?_
        show K (!decide (b ≤ β)) _
        rw [decide_eq_false c2]
        exact hK
      · exact tk (h false (fls 1 (by show β < b; grind)))
  · refine ifs_t' S (fun K hK => ?_) ?_
    · refine is_at_most_ok (zm (by omega)) ?_
      exact Eq.mp (if_pos (by rw [decide_eq_false c1]; decide)).symm hK
    · exact tk (h false (fls 0 (by show β < a; grind)))
theorem growing_ok (n : Nums D V q0 T N t a b β) (ht : 5 / 2 ≤ t) (hf : Fm t a b ≠ 0) {s z : Nat} (hD : D < 2 ^ s) (hV : V < 2 ^ s) (hq : q0 ≤ 16) (hT : T < 16) (hs : s ≤ 100000) (hN : N ≤ 100000) (hβ : zb β ≤ z) (htz : zb t ≤ z) (hz : z ≤ 1000000)
    (h : ∀ r, All t a b β r → Q (.d (.bl r)) st) : sp_growing_holds [.d (fr a), .d (fr b), .d (fr t), .d (fr β)] st Q := by
  unfold sp_growing_holds
  refine ⟨rfl, ?_⟩
  let S : Rat → Rat → M := fun x y => ⟨[some (.d (fr x)), some (.d (fr y)), some (.d (fr t)), some (.d (fr β))], st⟩
  have fls : ∀ j, β < C.sq t a b j → All t a b β false := fun j hj => ⟨fun z => (nomatch z), fun z => by
    have := z j
    grind⟩
  obtain ⟨i0, hi0, htu⟩ := n.turn ht hf
  have zs := n.sqZ hD hV hq hT
  have ge0 : ∀ x : Rat, decide ((0 : Int) ≤ sgn x) = decide (0 ≤ x) := fun x => decide_eq_decide.mpr (by
    have := PG.sgn_neg x
    constructor
    · intro q
      have : ¬ x < 0 := fun z => by
        have := this.mpr z
        omega
      exact Rat.not_lt.mp this
    · intro q
      have : ¬ sgn x < 0 := fun z => by
        have := this.mp z
        grind
      omega)
  have le0 : ∀ x : Rat, decide (sgn x ≤ (0 : Int)) = decide (x ≤ 0) := fun x => decide_eq_decide.mpr (by
    rw [sgn_le0]
    exact Rat.not_lt)
  refine seq_mid (fun m => (∃ j, β < C.sq t a b j) ∧ ∃ x y, m = S x y) (fun K hK => ?_) ?_
  · refine ⟨fun k m => ∃ i, k + i = N + 2 ∧ i ≤ i0 ∧ (∀ j, j < i → C.sq t a b j ≤ β ∧ ¬ Up (C.sq t a b j) (C.sq t a b (j + 1)) ∧ ¬ Down (C.sq t a b j) (C.sq t a b (j + 1))) ∧ m = S (C.sq t a b i) (C.sq t a b (i + 1)), ⟨N + 2, 0, rfl, Nat.zero_le _, fun j hj => by omega, rfl⟩, ?_⟩
    rintro k _ ⟨i, e1, hi, hall, rfl⟩
    have z1 := zs i
    have z2 := zs (i + 1)
    generalize hx : C.sq t a b i = x at *
    generalize hy : C.sq t a b (i + 1) = y at *
    refine is_at_most_ok (zm (by omega)) ?_
    show if decide (x ≤ β) = true then _ else _
    refine ifd (fun cx => ?_) fun cx => hK _ ⟨⟨i, by rw [hx]; grind⟩, x, y, rfl⟩
    by_cases cu : Up x y
    · refine ifs_t' (S x y) (fun K hK => ?_) ?_
      · refine sign_ok ⟨trivial, ?_⟩
        show if decide ((0 : Int) ≤ sgn x) = true then _ else _
        rw [ge0, decide_eq_true cu.1]
        refine Eq.mp (if_pos rfl).symm (is_at_most_ok (zm (by omega)) ?_)
        show K (decide (x ≤ y)) _
        rw [decide_eq_true cu.2]
        exact hK
      · refine tk (h false (fls (i + 1 + N) ?_))
        have := n.far ht hf (i := i) (by rw [hx, hy]; exact cu) _ (Nat.le_refl _)
        have := (in_abs n.D0 n.β).1
        grind
    · refine guard_st (S x y) (fun K hK => ?_) ?_
      · refine sign_ok ⟨trivial, ?_⟩
        show if decide ((0 : Int) ≤ sgn x) = true then _ else _
        rw [ge0]
        refine ifd (fun c0 => is_at_most_ok (zm (by omega)) ?_) fun c0 => hK
        show K (decide (x ≤ y)) _
        rw [decide_eq_false fun z => cu ⟨c0, z⟩]
        exact hK
      by_cases cd : Down x y
      · refine ifs_t' (S x y) (fun K hK => ?_) ?_
        · refine sign_ok ⟨trivial, ?_⟩
          show if decide (sgn x ≤ (0 : Int)) = true then _ else _
          rw [le0, decide_eq_true cd.1]
          refine Eq.mp (if_pos rfl).symm (is_at_most_ok (zm (by omega)) ?_)
          show K (decide (y ≤ x)) _
          rw [decide_eq_true cd.2]
          exact hK
        · refine tk (h true ⟨fun _ j => ?_, fun _ => rfl⟩)
          by_cases c : j < i
          · exact (hall j c).1
          · have := down_all ht (i := i) (by rw [hx, hy]; exact cd) j (by omega)
            rw [hx] at this
            grind
      · refine guard_st (S x y) (fun K hK => ?_) ?_
        · refine sign_ok ⟨trivial, ?_⟩
          show if decide (sgn x ≤ (0 : Int)) = true then _ else _
          rw [le0]
          refine ifd (fun c0 => is_at_most_ok (zm (by omega)) ?_) fun c0 => hK
          show K (decide (y ≤ x)) _
          rw [decide_eq_false fun z => cd ⟨c0, z⟩]
          exact hK
        · have ne : i ≠ i0 := fun e => by
            rw [← e, hx, hy] at htu
            exact htu.elim cu cd
          have m1 := zb_mul t y
          refine multiply_ok (zm (by omega)) (subtract_ok (zm (by omega)) ?_)
          refine ⟨k - 1, by omega, i + 1, by omega, by omega, fun j hj => ?_, ?_⟩
          · by_cases e : j = i
            · rw [e, hx, hy]
              exact ⟨cx, cu, cd⟩
            · exact hall j (by omega)
          · show S y (t * y - x) = S (C.sq t a b (i + 1)) (C.sq t a b (i + 2))
            rw [sq_rec, hy, hx]
  · rintro _ ⟨⟨j, hj⟩, x, y, rfl⟩
    exact tk (h false (fls j hj))
end
end C
end PG

set_option maxRecDepth 100000
set_option maxHeartbeats 4000000

namespace PG
namespace C
open PySem PySem.Spec PyProof.Rows L2 RT
def pol (f s h x : Rat) : Rat := f + x * (s - f) + x * (x - 1) / 2 * (h - s - (s - f))
def upTo (x : Rat) : Int := -((-x.num).fdiv (x.den : Int))
theorem upTo_spec (x : Rat) : x ≤ (upTo x : Rat) ∧ (upTo x : Rat) < x + 1 := by
  have d0 : (0 : Int) < (x.den : Int) := den_pos' x
  have dq : (0 : Rat) < (x.den : Rat) := denR_pos x
  have e := Int.mul_fdiv_add_fmod (-x.num) (x.den : Int)
  have m0 := Int.fmod_nonneg_of_pos (-x.num) d0
  have m1 := Int.fmod_lt_of_pos (-x.num) d0
  obtain ⟨k, hk⟩ : ∃ k, (-x.num).fdiv (x.den : Int) = k := ⟨_, rfl⟩
  obtain ⟨r, hr⟩ : ∃ r, (-x.num).fmod (x.den : Int) = r := ⟨_, rfl⟩
  unfold upTo
  rw [hk] at e ⊢
  rw [hr] at e m0 m1
  have nd := num_den x
  have e' : ((x.den : Int) * k + r : Int) = -x.num := e
  have eq : ((x.den : Rat) * (k : Rat) + (r : Rat)) = -(x * (x.den : Rat)) := by
    rw [← nd, ← Rat.intCast_neg, ← e', Rat.intCast_add, Rat.intCast_mul, Rat.intCast_natCast]
  have r0 : (0 : Rat) ≤ (r : Rat) := Rat.intCast_le_intCast.mpr m0
  have r1 : (r : Rat) < (x.den : Rat) := by
    have := Rat.intCast_lt_intCast.mpr m1
    rw [Rat.intCast_natCast] at this
    exact this
  rw [Rat.intCast_neg]
  generalize (x.den : Rat) = d at *
  generalize (r : Rat) = ρ at *
  generalize (k : Rat) = κ at *
  refine ⟨?_, ?_⟩
  · refine Classical.byContradiction fun no => ?_
    have := Rat.mul_pos (show 0 < x - -κ by grind) dq
    grind
  · refine Classical.byContradiction fun no => ?_
    have := Rat.mul_nonneg (show 0 ≤ -κ - (x + 1) by grind) (Rat.le_of_lt dq)
    grind
theorem pol_top {f s h : Rat} (hb : h - s - (s - f) < 0) (x : Int) : pol f s h x ≤ pol f s h (upTo ((s - f) / -(h - s - (s - f)))) := by
  obtain ⟨u1, u2⟩ := upTo_spec ((s - f) / -(h - s - (s - f)))
  obtain ⟨k, hk⟩ : ∃ k, upTo ((s - f) / -(h - s - (s - f))) = k := ⟨_, rfl⟩
  rw [hk] at u1 u2 ⊢
  unfold pol
  obtain ⟨c, hc⟩ : ∃ c, -(h - s - (s - f)) = c := ⟨_, rfl⟩
  have c0 : 0 < c := by grind
  have eτ : (s - f) / c * c = s - f := Rat.div_mul_cancel (by grind)
  rw [hc] at u1 u2
  have ec : h - s - (s - f) = -c := by grind
  rw [ec]
  generalize (s - f) / c = τ at *
  rw [← eτ]
  clear eτ ec hc
  refine Classical.byContradiction fun no => ?_
  by_cases q : x = k
  · subst q
    exact no Rat.le_refl
  rcases Int.lt_or_gt_of_ne q with q | q
  · have e : (x : Rat) ≤ (k : Rat) - 1 := by
      have := Rat.intCast_le_intCast.mpr (show x ≤ k - 1 by omega)
      rw [Rat.intCast_sub] at this
      exact this
    generalize (x : Rat) = X at *
    generalize (k : Rat) = Y at *
    have p := Rat.mul_nonneg (show 0 ≤ Y - X by grind) (show 0 ≤ τ - (X + Y - 1) / 2 by grind)
    have p2 := Rat.mul_nonneg p (Rat.le_of_lt c0)
    grind
  · have e : (k : Rat) + 1 ≤ (x : Rat) := by
      have := Rat.intCast_le_intCast.mpr (show k + 1 ≤ x by omega)
      rw [Rat.intCast_add] at this
      exact this
    generalize (x : Rat) = X at *
    generalize (k : Rat) = Y at *
    have p := Rat.mul_nonneg (show 0 ≤ X - Y by grind) (show 0 ≤ (X + Y - 1) / 2 - τ by grind)
    have p2 := Rat.mul_nonneg p (Rat.le_of_lt c0)
    grind
theorem pol_up {f s h V d : Rat} {x : Rat} (V0 : 0 ≤ V) (f1 : -V ≤ f) (s1 : -(2 * V) ≤ s - f) (d0 : d ≤ h - s - (s - f)) (x0 : 1 ≤ x) (hx1 : 4 * V + 2 ≤ (x - 1) * d) (hx : V < x) : 0 < pol f s h x := by
  unfold pol
  generalize h - s - (s - f) = b at *
  generalize s - f = g at *
  have m := mul_le d0 (show 0 ≤ x - 1 by grind)
  have : 1 ≤ g + (x - 1) / 2 * b := by grind
  have m2 := mul_le this (show 0 ≤ x by grind)
  grind
theorem two_ne : (2 : Int) ≠ 0 := by decide
section
variable {st : List Cell} {Q : Vl → List Cell → Prop} {f s h : Rat}
theorem poly_ok {z : Nat} (hf : zb f ≤ z) (hs : zb s ≤ z) (hh : zb h ≤ z) (hz : z ≤ 100000) (hz4 : 4 ≤ z) (ex : 0 < h - s - (s - f) ∨ (h - s - (s - f) = 0 ∧ 0 < s - f) → ∃ n : Nat, 0 < pol f s h (n : Rat))
    (hq : ∀ r : Bool, (r = true ↔ ∀ n : Nat, pol f s h (n : Rat) ≤ 0) → Q (.d (.bl r)) st) : sp_polynomial_holds [.d (fr f), .d (fr s), .d (fr h)] st Q := by
  unfold sp_polynomial_holds
  refine ⟨rfl, ?_⟩
  obtain ⟨g, hg⟩ : ∃ g, s - f = g := ⟨_, rfl⟩
  obtain ⟨b, hb⟩ : ∃ b, h - s - (s - f) = b := ⟨_, rfl⟩
  have zg : zb g ≤ 2 * z := by rw [← hg]; have := zb_sub s f; omega
  have zb' : zb b ≤ 4 * z := by
    rw [← hb, hg]
    have := zb_sub h s
    have := zb_sub (h - s) g
    omega
  have hbg : h - s - g = b := by rw [← hg]; exact hb
  have pe : ∀ x : Rat, pol f s h x = f + x * g + x * (x - 1) / 2 * b := fun x => by
    unfold pol
    rw [hb, hg]
  have top := fun (hneg : b < 0) => pol_top (f := f) (s := s) (h := h) (by rw [hb]; exact hneg)
  rw [hb, hg] at ex top
  let F : Option Vl := some (.d (fr f))
  let A : Option Vl := some (.d (fr s))
  let H : Option Vl := some (.d (fr h))
  let S : Option Vl → Option Vl → Option Vl → Option Vl → Option Vl → Option Vl → M := fun z3 z4 z5 z6 z7 z8 => ⟨[F, A, H, z3, z4, z5, z6, z7, z8], st⟩
  let G : Option Vl := some (.d (fr g))
  let B : Option Vl := some (.d (fr b))
  refine seq_to (S G none none none none none) (fun K hK => subtract_ok (zm (by omega)) (by rw [hg]; exact hK)) ?_
  refine seq_to (S G B none none none none) (fun K hK => subtract_ok (zm (by omega)) ?_) ?_
  · have := zb_sub h s
    refine subtract_ok (zm (by omega)) ?_
    rw [hbg]
    exact hK
  have fls : ∀ n : Nat, 0 < pol f s h (n : Rat) → (false = true ↔ ∀ n : Nat, pol f s h (n : Rat) ≤ 0) := fun n hn => ⟨fun z => (nomatch z), fun z => by
    have := z n
    grind⟩
  have p0 : pol f s h ((0 : Nat) : Rat) = f := by
    rw [pe]
    have : ((0 : Nat) : Rat) = 0 := rfl
    rw [this]
    grind
  by_cases c1 : 0 < b
  · refine ifs_t' (S G B none none none none) (fun K hK => sign_ok ⟨trivial, ?_⟩) ?_
    · show if decide ((0 : Int) < sgn b) = true then _ else _
      rw [decide_eq_true ((PG.sgn_pos b).mpr c1)]
      exact hK
    · obtain ⟨n, hn⟩ := ex (.inl c1)
      exact tk (hq false (fls n hn))
  have e1 : decide ((0 : Int) < sgn b) = false := decide_eq_false fun z => c1 ((PG.sgn_pos b).mp z)
  by_cases c2 : 0 < f
  · refine ifs_t' (S G B none none none none) (fun K hK => sign_ok ⟨trivial, ?_⟩) ?_
    · show if decide ((0 : Int) < sgn b) = true then _ else _
      rw [e1]
      refine sign_ok ⟨trivial, ?_⟩
      show K (decide ((0 : Int) < sgn f)) _
      rw [decide_eq_true ((PG.sgn_pos f).mpr c2)]
      exact hK
    · exact tk (hq false (fls 0 (by rw [p0]; exact c2)))
  refine guard_st (S G B none none none none) (fun K hK => sign_ok ⟨trivial, ?_⟩) ?_
  · show if decide ((0 : Int) < sgn b) = true then _ else _
    rw [e1]
    refine sign_ok ⟨trivial, ?_⟩
    show K (decide ((0 : Int) < sgn f)) _
    rw [decide_eq_false fun z => c2 ((PG.sgn_pos f).mp z)]
    exact hK
  have nn : ∀ n : Nat, (0 : Rat) ≤ (n : Rat) := fun n => nat_cast_le (Nat.zero_le n)
  have nb : ∀ n : Nat, (0 : Rat) ≤ (n : Rat) * ((n : Rat) - 1) / 2 := fun n => by
    cases n with
    | zero =>
      have : ((0 : Nat) : Rat) = 0 := rfl
      rw [this]
      grind
    | succ n =>
      have h1 := nn n
      have : ((n + 1 : Nat) : Rat) = (n : Rat) + 1 := by rw [Rat.natCast_add]; rfl
      rw [this]
      have := Rat.mul_nonneg (show 0 ≤ (n : Rat) + 1 by grind) h1
      grind
  have gle : decide (sgn g ≤ (0 : Int)) = decide (g ≤ 0) := decide_eq_decide.mpr (by rw [sgn_le0]; exact Rat.not_lt)
  have falls : g ≤ 0 → b ≤ 0 → ∀ n : Nat, pol f s h (n : Rat) ≤ 0 := fun hg0 hb0 n => by
    rw [pe]
    have m1 := mul_le hg0 (nn n)
    have m2 := mul_le hb0 (nb n)
    generalize (n : Rat) * ((n : Rat) - 1) / 2 = u at *
    grind
  by_cases c3 : b = 0
  · refine ifs_t' (S G B none none none none) (fun K hK => sign_ok ⟨rfl, rfl, ?_⟩) ?_
    · show K (eqD (.int (sgn b)) (.int 0)) _
      rw [eqD_int, decide_eq_true (by rw [c3]; decide +kernel)]
      exact hK
    · refine sign_ok ⟨trivial, tk (hq _ ?_)⟩
      rw [gle]
      by_cases c4 : g ≤ 0
      · rw [decide_eq_true c4]
        exact ⟨fun _ => falls c4 (by grind), fun _ => rfl⟩
      · rw [decide_eq_false c4]
        obtain ⟨n, hn⟩ := ex (.inr ⟨c3, by grind⟩)
        exact fls n hn
  have bn : b < 0 := by grind
  refine guard_st (S G B none none none none) (fun K hK => sign_ok ⟨rfl, rfl, ?_⟩) ?_
  · show K (eqD (.int (sgn b)) (.int 0)) _
    rw [eqD_int, decide_eq_false (by
      have := (PG.sgn_neg b).mpr bn
      omega)]
    exact hK
  by_cases c4 : g ≤ 0
  · refine ifs_t' (S G B none none none none) (fun K hK => sign_ok ⟨trivial, ?_⟩) ?_
    · show K (decide (sgn g ≤ (0 : Int))) _
      rw [gle, decide_eq_true c4]
      exact hK
    · exact tk (hq true ⟨fun _ => falls c4 (by grind), fun _ => rfl⟩)
  refine guard_st (S G B none none none none) (fun K hK => sign_ok ⟨trivial, ?_⟩) ?_
  · show K (decide (sgn g ≤ (0 : Int))) _
    rw [gle, decide_eq_false c4]
    exact hK
  obtain ⟨τ, hτ⟩ : ∃ τ, g / -b = τ := ⟨_, rfl⟩
  have top := top bn
  rw [hτ] at top
  obtain ⟨k, hk⟩ : ∃ k, upTo τ = k := ⟨_, rfl⟩
  rw [hk] at top
  obtain ⟨u1, u2⟩ := upTo_spec τ
  rw [hk] at u1 u2
  have zτ : zb τ ≤ 6 * z := by
    rw [← hτ]
    have := zb_div g (-b)
    rw [zb_neg] at this
    omega
  have t0 : 0 < τ := by
    rw [← hτ, Rat.div_def]
    exact Rat.mul_pos (by grind) (Rat.inv_pos.mpr (by grind))
  have k0 : 0 < k := by
    refine Classical.byContradiction fun no => ?_
    have := Rat.intCast_le_intCast.mpr (show k ≤ 0 by omega)
    have c : ((0 : Int) : Rat) = 0 := rfl
    rw [c] at this
    grind
  -- the size of the greatest place
  have kz : k.natAbs.log2 + 2 ≤ 6 * z + 1 := by
    have n1 := zb_num τ
    have d1 : (1 : Rat) ≤ (τ.den : Rat) := nat_cast_le τ.den_pos
    have nd := num_den τ
    have le : (k : Rat) ≤ (τ.num : Rat) := by
      have lt : (k : Rat) < (τ.num : Rat) + 1 := by
        have := mul_le d1 (Rat.le_of_lt t0)
        grind
      have : k < τ.num + 1 := by
        have c : (((1 : Int)) : Rat) = 1 := rfl
        rw [← c, ← Rat.intCast_add] at lt
        exact Rat.intCast_lt_intCast.mp lt
      exact Rat.intCast_le_intCast.mpr (by omega)
    have le := Rat.intCast_le_intCast.mp le
    have hk1 : k.natAbs ≠ 0 := by omega
    have hlt : τ.num.natAbs < 2 ^ (τ.num.natAbs.log2 + 1) := Nat.lt_log2_self
    have : k.natAbs.log2 < τ.num.natAbs.log2 + 1 := (Nat.log2_lt hk1).mpr (by omega)
    omega
  refine seq_to (S G B (some (.d (fr τ))) none none none) (fun K hK => ?_) ?_
  · refine negative_ok ?_
    refine divide_ok (y := -b) (by grind) (zm (by rw [zb_neg]; omega)) ?_
    rw [hτ]
    exact hK
  refine seq_to (S G B (some (.d (fr τ))) (some (.d (.int k))) none none) (fun K hK => ?_) ?_
  · refine ⟨by have := den_pos' τ; omega, ?_⟩
    have : K (S G B (some (.d (fr τ))) (some (.d (.int (upTo τ)))) none none) := by rw [hk]; exact hK
    exact this
  have zk : zb (k : Rat) ≤ 6 * z + 1 := by
    have := zb_int k
    omega
  have m1 := zb_mul (k : Rat) g
  refine seq_to (S G B (some (.d (fr τ))) (some (.d (.int k))) (some (.d (fr ((k : Rat) * g)))) none) (fun K hK => frac1_ok (multiply_ok (zm (by omega)) hK)) ?_
  have kz1 : (k - 1).natAbs.log2 + 2 ≤ 6 * z + 1 := by
    by_cases e : (k - 1).natAbs = 0
    · rw [e]
      have : Nat.log2 0 = 0 := by decide
      omega
    · have hlt : k.natAbs < 2 ^ (k.natAbs.log2 + 1) := Nat.lt_log2_self
      have : (k - 1).natAbs.log2 < k.natAbs.log2 + 1 := (Nat.log2_lt e).mpr (by omega)
      omega
  -- k (k - 1) / 2
  obtain ⟨w, hw⟩ : ∃ w, (k * (k - 1)).fdiv 2 = w := ⟨_, rfl⟩
  have ew : 2 * w = k * (k - 1) := by
    have e := Int.mul_fdiv_add_fmod (k * (k - 1)) 2
    have ev : (k * (k - 1)).fmod 2 = 0 := by
      rw [Int.fmod_eq_emod_of_nonneg _ (by decide)]
      rcases (show k % 2 = 0 ∨ k % 2 = 1 by omega) with q | q
      · rw [Int.mul_emod, q, Int.zero_mul]; rfl
      · have : (k - 1) % 2 = 0 := by omega
        rw [Int.mul_emod, this, Int.mul_zero]; rfl
    rw [ev, hw] at e
    omega
  have wr : (w : Rat) = (k : Rat) * ((k : Rat) - 1) / 2 := by
    have : ((2 * w : Int) : Rat) = ((k * (k - 1) : Int) : Rat) := congrArg (fun x : Int => (x : Rat)) ew
    rw [Rat.intCast_mul, Rat.intCast_mul, Rat.intCast_sub] at this
    have c2 : ((2 : Int) : Rat) = 2 := rfl
    have c1 : ((1 : Int) : Rat) = 1 := rfl
    rw [c2, c1] at this
    grind
  have zw : zb (w : Rat) ≤ 12 * z + 8 := by
    rw [wr]
    have a1 := zb_sub (k : Rat) 1
    have o1 : zb (1 : Rat) ≤ 2 := by decide +kernel
    have a2 := zb_mul (k : Rat) ((k : Rat) - 1)
    have a3 := zb_div ((k : Rat) * ((k : Rat) - 1)) 2
    have o2 : zb (2 : Rat) ≤ 3 := by decide +kernel
    omega
  have m2 := zb_mul (w : Rat) b
  refine seq_to (S G B (some (.d (fr τ))) (some (.d (.int k))) (some (.d (fr ((k : Rat) * g)))) (some (.d (fr ((w : Rat) * b))))) (fun K hK => ?_) ?_
  · refine ⟨trivial, mk_nn kz kz1 (zm (by omega)), two_ne, ?_⟩
    refine frac1_ok (n := (k * (k - 1)).fdiv 2) ?_
    rw [hw]
    exact multiply_ok (zm (by omega)) hK
  have m3 := zb_add f ((k : Rat) * g)
  refine add_ok (zm (by omega)) (add_ok (zm (by omega)) (sign_ok ⟨trivial, tk (hq _ ?_)⟩))
  have ep : f + (k : Rat) * g + (w : Rat) * b = pol f s h (k : Rat) := by
    rw [pe, wr]
  rw [ep, show decide (sgn (pol f s h (k : Rat)) ≤ (0 : Int)) = decide (pol f s h (k : Rat) ≤ 0) from decide_eq_decide.mpr (by rw [sgn_le0]; exact Rat.not_lt)]
  have ck : ((k.toNat : Nat) : Rat) = (k : Rat) := by
    rw [← Rat.intCast_natCast, Int.toNat_of_nonneg (by omega)]
  by_cases c5 : pol f s h (k : Rat) ≤ 0
  · rw [decide_eq_true c5]
    refine ⟨fun _ n => ?_, fun _ => rfl⟩
    have := top (n : Int)
    rw [Rat.intCast_natCast] at this
    grind
  · rw [decide_eq_false c5]
    refine fls k.toNat ?_
    rw [ck]
    grind
end
end C
end PG

set_option maxRecDepth 100000
set_option maxHeartbeats 4000000

namespace PG
namespace C
open PySem PySem.Spec PyProof.Rows L2 RT
theorem arch {d : Rat} (hd : 0 < d) (X : Rat) : ∃ n : Nat, X < (n : Rat) * d := by
  refine ⟨(X / d).num.natAbs + 1, ?_⟩
  have e : X / d * d = X := Rat.div_mul_cancel (by grind)
  generalize X / d = y at *
  have y1 : y < ((y.num.natAbs + 1 : Nat) : Rat) := by
    have nd := num_den y
    have d1 : (1 : Rat) ≤ (y.den : Rat) := nat_cast_le y.den_pos
    have le : (y.num : Rat) ≤ ((y.num.natAbs : Nat) : Rat) := by
      rw [← Rat.intCast_natCast]
      exact Rat.intCast_le_intCast.mpr (by omega)
    have n0 : (0 : Rat) ≤ ((y.num.natAbs : Nat) : Rat) := nat_cast_le (Nat.zero_le _)
    rw [Rat.natCast_add]
    have c1 : ((1 : Nat) : Rat) = 1 := rfl
    rw [c1]
    generalize ((y.num.natAbs : Nat) : Rat) = m at *
    generalize (y.den : Rat) = k at *
    refine Classical.byContradiction fun no => ?_
    have m1 := mul_le d1 (show 0 ≤ y by grind)
    grind
  have := Rat.mul_pos (show 0 < ((y.num.natAbs + 1 : Nat) : Rat) - y by grind) hd
  grind
theorem mtwo_high {a b β : Rat} {n : Nat} (h : (n % 2 = 0 ∧ β - a < (n : Rat) * (-b - a)) ∨ (n % 2 = 1 ∧ β + a < (n : Rat) * (a + b))) : β < sq (-2) a b n := by
  rw [sq_mtwo]
  rcases h with ⟨h1, h2⟩ | ⟨h1, h2⟩
  · rw [if_pos h1]
    grind
  · rw [if_neg (by omega)]
    grind
theorem mtwo_ex {a b β : Rat} (h : a + b ≠ 0) : ∃ n, β < sq (-2) a b n := by
  have two : ∀ n : Nat, ((2 * n : Nat) : Rat) = 2 * (n : Rat) := fun n => by rw [Rat.natCast_mul]; rfl
  by_cases c : 0 < a + b
  · obtain ⟨n, hn⟩ := arch c (β + a)
    refine ⟨2 * n + 1, mtwo_high (.inr ⟨by omega, ?_⟩)⟩
    have : ((2 * n + 1 : Nat) : Rat) = 2 * (n : Rat) + 1 := by rw [Rat.natCast_add, two]; rfl
    rw [this]
    have := Rat.mul_nonneg (nat_cast_le (Nat.zero_le n)) (Rat.le_of_lt c)
    have e0 : ((0 : Nat) : Rat) = 0 := rfl
    grind
  · have c : 0 < -b - a := by grind
    obtain ⟨n, hn⟩ := arch c (β - a)
    refine ⟨2 * n, mtwo_high (.inl ⟨by omega, ?_⟩)⟩
    rw [two]
    have := Rat.mul_nonneg (nat_cast_le (Nat.zero_le n)) (Rat.le_of_lt c)
    grind
theorem mtwo_all {a b β : Rat} (h : a + b = 0) (h1 : a ≤ β) (h2 : b ≤ β) (n : Nat) : sq (-2) a b n ≤ β := by
  rw [sq_mtwo, show -b - a = 0 by grind]
  split <;> grind
theorem pol_ex {f s h : Rat} (c : 0 < h - s - (s - f) ∨ (h - s - (s - f) = 0 ∧ 0 < s - f)) : ∃ n : Nat, 0 < pol f s h (n : Rat) := by
  rcases c with c | ⟨c, c2⟩
  · -- V above the sizes of f and s - f
    obtain ⟨V, hV⟩ : ∃ V : Nat, -f < (V : Rat) ∧ -(s - f) < (V : Rat) := by
      obtain ⟨n, hn⟩ := arch (d := 1) (by decide) (-f)
      obtain ⟨m, hm⟩ := arch (d := 1) (by decide) (-(s - f))
      refine ⟨n + m, ?_⟩
      rw [Rat.natCast_add]
      have := nat_cast_le (Nat.zero_le n)
      have := nat_cast_le (Nat.zero_le m)
      have e0 : ((0 : Nat) : Rat) = 0 := rfl
      exact ⟨by grind, by grind⟩
    obtain ⟨n, hn⟩ := arch c (4 * (V : Rat) + 2)
    have v0 : (0 : Rat) ≤ (V : Rat) := nat_cast_le (Nat.zero_le V)
    have n0 : (0 : Rat) ≤ (n : Rat) := nat_cast_le (Nat.zero_le n)
    refine ⟨n + V + 1, ?_⟩
    have e : ((n + V + 1 : Nat) : Rat) = (n : Rat) + (V : Rat) + 1 := by rw [Rat.natCast_add, Rat.natCast_add]; rfl
    rw [e]
    have m := Rat.mul_nonneg v0 (Rat.le_of_lt c)
    exact pol_up (V := (V : Rat)) (d := h - s - (s - f)) v0 (by grind) (by grind) Rat.le_refl (by grind) (by grind) (by grind)
  · obtain ⟨n, hn⟩ := arch c2 (-f)
    refine ⟨n, ?_⟩
    unfold pol
    rw [c]
    grind
section
variable {st : List Cell} {Q : Vl → List Cell → Prop} {t f s h : Rat}
def mid (t f s h : Rat) : Rat := (h - t * s + f) / (2 - t)
def cyc (t : Rat) : Prop := t = -1 ∨ t = 0 ∨ t = 1
instance (t : Rat) : Decidable (cyc t) := by
  unfold cyc
  infer_instance
def Res (t f s h : Rat) (r : Bool) : Prop :=
  if t = 2 then (r = true ↔ ∀ n : Nat, pol f s h (n : Rat) ≤ 0)
  else if t * t < 4 ∧ ¬ cyc t then r = decide (0 ≤ -mid t f s h ∧ 4 * Fm t (f - mid t f s h) (s - mid t f s h) ≤ -mid t f s h * -mid t f s h * (4 - t * t))
  else All t (f - mid t f s h) (s - mid t f s h) (-mid t f s h) r
theorem res_two (t2 : t = 2) {r : Bool} (hr : r = true ↔ ∀ n : Nat, pol f s h (n : Rat) ≤ 0) : Res t f s h r := by
  unfold Res
  rw [if_pos t2]
  exact hr
theorem res_dense (t2 : t ≠ 2) (td : t * t < 4 ∧ ¬ cyc t) : Res t f s h (decide (0 ≤ -mid t f s h ∧ 4 * Fm t (f - mid t f s h) (s - mid t f s h) ≤ -mid t f s h * -mid t f s h * (4 - t * t))) := by
  unfold Res
  rw [if_neg t2, if_pos td]
theorem res_all (t2 : t ≠ 2) (td : ¬ (t * t < 4 ∧ ¬ cyc t)) {r : Bool} (hr : All t (f - mid t f s h) (s - mid t f s h) (-mid t f s h) r) : Res t f s h r := by
  unfold Res
  rw [if_neg t2, if_neg td]
  exact hr
theorem rat_eq {t : Rat} {n : Int} {d : Nat} (x : Rat) (h1 : x.num = n) (h2 : x.den = d) : ([t.num, (t.den : Int)] == [n, (d : Int)]) = decide (t = x) := by
  rw [Bool.eq_iff_iff, beq_iff_eq, decide_eq_true_iff]
  constructor
  · intro e
    injection e with e1 e2
    injection e2 with e2 _
    refine Rat.ext ?_ ?_
    · rw [e1, h1]
    · rw [h2]
      omega
  · intro e
    rw [e, h1, h2]
theorem cyc_in : (k_CYCLES.lookup [t.num, (t.den : Int)]).isSome = true ↔ cyc t := by
  have a1 := rat_eq (t := t) (n := -1) (d := 1) (-1) (by decide +kernel) (by decide +kernel)
  have a2 := rat_eq (t := t) (n := 0) (d := 1) 0 (by decide +kernel) (by decide +kernel)
  have a3 := rat_eq (t := t) (n := 1) (d := 1) 1 (by decide +kernel) (by decide +kernel)
  unfold k_CYCLES cyc
  simp only [List.lookup_cons, List.lookup_nil]
  have b1 : ([t.num, (t.den : Int)] == [-1, 1]) = decide (t = -1) := a1
  have b2 : ([t.num, (t.den : Int)] == [0, 1]) = decide (t = 0) := a2
  have b3 : ([t.num, (t.den : Int)] == [1, 1]) = decide (t = 1) := a3
  rw [b1, b2, b3]
  by_cases c1 : t = -1
  · rw [decide_eq_true c1]
    simp [c1]
  · rw [decide_eq_false c1]
    by_cases c2 : t = 0
    · rw [decide_eq_true c2]
      simp [c2]
    · rw [decide_eq_false c2]
      by_cases c3 : t = 1
      · rw [decide_eq_true c3]
        simp [c3]
      · rw [decide_eq_false c3]
        simp [c1, c2, c3]
theorem stays_ok {D V q0 T N e z : Nat} (hz : z ≤ 10000) (hz4 : 4 ≤ z) (tz : zb t ≤ z) (fz : zb f ≤ z) (sz : zb s ≤ z) (hz' : zb h ≤ z)
    (big : t ≠ 2 → ¬ cyc t → t ≠ -2 → ¬ t * t < 4 → (5 / 2 ≤ t ∨ t ≤ -(5 / 2)) ∧ Nums D V q0 T N t (f - mid t f s h) (s - mid t f s h) (-mid t f s h))
    (hD : D < 2 ^ e) (hV : V < 2 ^ e) (hq : q0 ≤ 16) (hT : T < 16) (he : e ≤ 100000) (hN : N ≤ 100000)
    (hQ : ∀ r : Bool, Res t f s h r → Q (.d (.bl r)) st) : sp_stays_below [.d (fr f), .d (fr s), .d (fr h), .d (fr t)] st Q := by
  unfold sp_stays_below
  refine ⟨rfl, ?_⟩
  let S : Option Vl → Option Vl → Option Vl → Option Vl → M := fun z4 z5 z6 z7 => ⟨[some (.d (fr f)), some (.d (fr s)), some (.d (fr h)), some (.d (fr t)), z4, z5, z6, z7], st⟩
  have v2 : v_TWO = fr 2 := rfl
  by_cases t2 : t = 2
  · refine ifs_t' (S none none none none) (fun K hK => ⟨sh_fr', sh_fr' (q := 2), ?_⟩) ?_
    · show K (eqD (fr t) (fr 2)) _
      rw [eqD_fr, decide_eq_true t2]
      exact hK
    · exact poly_ok fz sz hz' (by omega) hz4 pol_ex fun r hr => tk (hQ r (res_two t2 hr))
  have hA := fun (nd : ¬ (t * t < 4 ∧ ¬ cyc t)) (r : Bool) hr => hQ r (res_all t2 nd hr)
  have hd := fun (td : t * t < 4 ∧ ¬ cyc t) => hQ _ (res_dense t2 td)
  refine guard_st (S none none none none) (fun K hK => ⟨sh_fr', sh_fr' (q := 2), ?_⟩) ?_
  · show K (eqD (fr t) (fr 2)) _
    rw [eqD_fr, decide_eq_false t2]
    exact hK
  have d0 : (2 : Rat) - t ≠ 0 := fun x => t2 (by grind)
  have o2 : zb (2 : Rat) ≤ 4 := by decide +kernel
  have o4 : zb (4 : Rat) ≤ 4 := by decide +kernel
  have m1 := zb_mul t s
  have m2 := zb_sub h (t * s)
  have m3 := zb_add (h - t * s) f
  have m4 := zb_sub 2 t
  have m5 := zb_div (h - t * s + f) (2 - t)
  obtain ⟨c, hc⟩ : ∃ c, mid t f s h = c := ⟨_, rfl⟩
  have ec : (h - t * s + f) / (2 - t) = c := hc
  rw [hc] at big hd hA
  rw [ec] at m5
  have m6 := zb_sub f c
  have m7 := zb_sub s c
  have m8 := zb_neg c
  refine seq_to (S (some (.d (fr c))) none none none) (fun K hK => ?_) ?_
  · refine multiply_ok (zm (by omega)) (subtract_ok (zm (by omega)) (add_ok (zm (by omega)) (subtract_ok (x := 2) (y := t) (zm (by omega)) (divide_ok d0 (zm (by omega)) ?_))))
    rw [ec]
    exact hK
  refine seq_to (S (some (.d (fr c))) (some (.d (fr (f - c)))) none none) (fun K hK => subtract_ok (zm (by omega)) hK) ?_
  refine seq_to (S (some (.d (fr c))) (some (.d (fr (f - c)))) (some (.d (fr (s - c)))) none) (fun K hK => subtract_ok (zm (by omega)) hK) ?_
  refine seq_to (S (some (.d (fr c))) (some (.d (fr (f - c)))) (some (.d (fr (s - c)))) (some (.d (fr (-c))))) (fun K hK => negative_ok hK) ?_
  generalize f - c = a at *
  generalize s - c = b at *
  generalize -c = β at *
  let U : M := S (some (.d (fr c))) (some (.d (fr a))) (some (.d (fr b))) (some (.d (fr β)))
  have az : zb a ≤ 10 * z := by omega
  have bz : zb b ≤ 10 * z := by omega
  have βz : zb β ≤ 10 * z := by omega
  by_cases tc : cyc t
  · refine ifs_t' U (fun K hK => ?_) ?_
    · refine inK_var (ds := [.int t.num, .int (t.den : Int)]) (ks := [t.num, (t.den : Int)]) rfl rfl ?_
      show K (k_CYCLES.lookup [t.num, (t.den : Int)]).isSome _
      rw [cyc_in.mpr tc]
      exact hK
    · have hQ := hA fun z => z.2 tc
      have fin : ∀ {p : Nat}, 0 < p → sq t a b p = a → sq t a b (p + 1) = b → ∀ r : Bool, (r = true ↔ ∀ i, i < p → sq t a b i ≤ β) → All t a b β r := fun {p} hp h0 h1 r hr => by
        unfold All
        rw [hr]
        constructor
        · intro all j
          obtain ⟨i, hi, e⟩ := sq_mod hp h0 h1 j
          rw [e]
          exact all i hi
        · intro all i _
          exact all i
      rcases tc with rfl | rfl | rfl
      · exact cycle_ok (p := 3) (z := 10 * z) (.inl ⟨rfl, rfl⟩) az bz βz (by omega) fun r hr => tk (hQ r (fin (by decide) (cyc3 a b).1 (cyc3 a b).2 r hr))
      · exact cycle_ok (p := 4) (z := 10 * z) (.inr (.inl ⟨rfl, rfl⟩)) az bz βz (by omega) fun r hr => tk (hQ r (fin (by decide) (cyc4 a b).1 (cyc4 a b).2 r hr))
      · exact cycle_ok (p := 6) (z := 10 * z) (.inr (.inr ⟨rfl, rfl⟩)) az bz βz (by omega) fun r hr => tk (hQ r (fin (by decide) (cyc6 a b).1 (cyc6 a b).2 r hr))
  refine guard_st U (fun K hK => ?_) ?_
  · refine inK_var (ds := [.int t.num, .int (t.den : Int)]) (ks := [t.num, (t.den : Int)]) rfl rfl ?_
    show K (k_CYCLES.lookup [t.num, (t.den : Int)]).isSome _
    rw [Bool.eq_false_iff.mpr fun z => tc (cyc_in.mp z)]
    exact hK
  have em2 : Dt.tup [.int (-2), .int 1] = fr (-2) := rfl
  by_cases tm : t = -2
  · refine ifs_t' U (fun K hK => ⟨lineN rfl, sh_fr', sh_fr' (q := -2), ?_⟩) ?_
    · show K (eqD (fr t) (fr (-2))) _
      rw [eqD_fr, decide_eq_true tm]
      exact hK
    · refine turning_ok (z := 10 * z) az bz βz (by omega) (tk (hA (fun q => by rw [tm] at q; exact absurd q.1 (by decide +kernel)) _ ?_))
      subst tm
      unfold All
      rw [decide_eq_true_iff]
      constructor
      · rintro ⟨h1, h2, h3⟩ j
        exact mtwo_all h1 h2 h3 j
      · intro all
        refine ⟨Classical.byContradiction fun no => ?_, all 0, all 1⟩
        obtain ⟨n, hn⟩ := mtwo_ex (β := β) no
        have := all n
        grind
  refine guard_st U (fun K hK => ⟨lineN rfl, sh_fr', sh_fr' (q := -2), ?_⟩) ?_
  · show K (eqD (fr t) (fr (-2))) _
    rw [eqD_fr, decide_eq_false tm]
    exact hK
  have e4 : ((4 : Int) : Rat) = 4 := rfl
  have m9 := zb_mul t t
  by_cases td : t * t < 4
  · refine ifs_t' U (fun K hK => ?_) ?_
    · refine multiply_ok (zm (by omega)) (frac1_ok ?_)
      rw [e4]
      refine is_less_ok (zm (by omega)) ?_
      show K (decide (t * t < 4)) _
      rw [decide_eq_true td]
      exact hK
    · exact ellipse_ok (z := 10 * z) az bz (by omega) βz (by omega) (by omega) (tk (hd ⟨td, tc⟩))
  refine guard_st U (fun K hK => ?_) ?_
  · refine multiply_ok (zm (by omega)) (frac1_ok ?_)
    rw [e4]
    refine is_less_ok (zm (by omega)) ?_
    show K (decide (t * t < 4)) _
    rw [decide_eq_false td]
    exact hK
  have hQ := hA fun q => td q.1
  obtain ⟨ht, n⟩ := big t2 tc tm td
  by_cases hf : Fm t a b = 0
  · refine ifs_t' U (fun K hK => form_ok (z := 10 * z) az bz (by omega) (by omega) ⟨sh_fr', sh_fr' (q := 0), ?_⟩) ?_
    · show K (eqD (fr (Fm t a b)) (fr 0)) _
      rw [eqD_fr, decide_eq_true hf]
      exact hK
    · exact line_ok2 n ht hf az bz βz (by omega) fun r hr => tk (hQ r hr)
  refine guard_st U (fun K hK => form_ok (z := 10 * z) az bz (by omega) (by omega) ⟨sh_fr', sh_fr' (q := 0), ?_⟩) ?_
  · show K (eqD (fr (Fm t a b)) (fr 0)) _
    rw [eqD_fr, decide_eq_false hf]
    exact hK
  by_cases tn : t < 0
  · refine ifs_t' U (fun K hK => sign_ok ⟨trivial, ?_⟩) ?_
    · show K (decide (sgn t < 0)) _
      rw [decide_eq_true ((PG.sgn_neg t).mpr tn)]
      exact hK
    · refine tk (hQ false ⟨fun z => (nomatch z), fun all => ?_⟩)
      obtain ⟨j, _, hj⟩ := n.alters (by grind) hf
      have := all j
      have := (in_abs n.D0 n.β).1
      grind
  refine guard_st U (fun K hK => sign_ok ⟨trivial, ?_⟩) ?_
  · show K (decide (sgn t < 0)) _
    rw [decide_eq_false fun z => tn ((PG.sgn_neg t).mp z)]
    exact hK
  exact growing_ok (z := 10 * z) n (by grind) hf hD hV hq hT he hN βz (by omega) (by omega) fun r hr => tk (hQ r hr)
end
end C
end PG

set_option maxRecDepth 100000
set_option maxHeartbeats 4000000
namespace PG
open PySem PySem.Spec PyProof.Rows L2 RT
section
variable {st : List Cell} {Q : Vl → List Cell → Prop} {g k l : Hp3} {x : Ray} {n : Nat} {hs : List Hp3}
end
end PG

set_option maxRecDepth 100000
set_option maxHeartbeats 4000000
namespace PG
open PySem PySem.Spec PyProof.Rows L2 RT
end PG

set_option maxRecDepth 100000
set_option maxHeartbeats 4000000

namespace PG
namespace C
open PySem PySem.Spec PyProof.Rows L2 RT
theorem frT {n : Int} {d : Nat} {x : Rat} (h1 : x.num = n) (h2 : x.den = d) : Dt.tup [.int n, .int (d : Int)] = fr x := by
  unfold fr
  rw [h1, h2]
def T13 : List Rat := [-1, 0, 1, 2, -2, Rat.divInt 5 2, Rat.divInt (-5) 2, 3, Rat.divInt (-10) 3, Rat.divInt 1 2, Rat.divInt (-3) 2, Rat.divInt 7 4, 4]
def T13D : List Dt := [.tup [.int (-1), .int 1], .tup [.int 0, .int 1], .tup [.int 1, .int 1], .tup [.int 2, .int 1], .tup [.int (-2), .int 1], .tup [.int 5, .int 2], .tup [.int (-5), .int 2], .tup [.int 3, .int 1], .tup [.int (-10), .int 3], .tup [.int 1, .int 2], .tup [.int (-3), .int 2], .tup [.int 7, .int 4], .tup [.int 4, .int 1]]
theorem T13_eq : T13D = T13.map fr := by
  have e : ∀ (n : Int) (d : Nat) (x : Rat), x.num = n → x.den = d → Dt.tup [.int n, .int (d : Int)] = fr x := fun n d x => frT
  unfold T13 T13D
  simp only [List.map_cons, List.map_nil]
  rw [← e (-1) 1 (-1) (by decide +kernel) (by decide +kernel), ← e 0 1 0 (by decide +kernel) (by decide +kernel), ← e 1 1 1 (by decide +kernel) (by decide +kernel), ← e 2 1 2 (by decide +kernel) (by decide +kernel),
    ← e (-2) 1 (-2) (by decide +kernel) (by decide +kernel), ← e 5 2 (Rat.divInt 5 2) (by decide +kernel) (by decide +kernel), ← e (-5) 2 (Rat.divInt (-5) 2) (by decide +kernel) (by decide +kernel), ← e 3 1 3 (by decide +kernel) (by decide +kernel),
    ← e (-10) 3 (Rat.divInt (-10) 3) (by decide +kernel) (by decide +kernel), ← e 1 2 (Rat.divInt 1 2) (by decide +kernel) (by decide +kernel), ← e (-3) 2 (Rat.divInt (-3) 2) (by decide +kernel) (by decide +kernel), ← e 7 4 (Rat.divInt 7 4) (by decide +kernel) (by decide +kernel), ← e 4 1 4 (by decide +kernel) (by decide +kernel)]
  rfl
theorem pickF {l : List Rat} {i : Int} (h0 : 0 ≤ i) (h1 : i < l.length) : ∃ x, x ∈ l ∧ atI (l.map fr) i = some (fr x) := by
  obtain ⟨n, rfl⟩ : ∃ n : Nat, i = (n : Int) := ⟨i.toNat, by omega⟩
  have hlt : n < l.length := by omega
  exact ⟨l[n], List.getElem_mem hlt, atI_map (f := fr) (List.getElem?_eq_getElem hlt)⟩
def F8 : List Rat := [Rat.divInt 1 2, 2, Rat.divInt (-1) 2, -2, -1, Rat.divInt 1 3, 3, Rat.divInt (-1) 3]
def F8D : List Dt := [.tup [.int 1, .int 2], .tup [.int 2, .int 1], .tup [.int (-1), .int 2], .tup [.int (-2), .int 1], .tup [.int (-1), .int 1], .tup [.int 1, .int 3], .tup [.int 3, .int 1], .tup [.int (-1), .int 3]]
theorem F8_eq : F8D = F8.map fr := by
  have e : ∀ (n : Int) (d : Nat) (x : Rat), x.num = n → x.den = d → Dt.tup [.int n, .int (d : Int)] = fr x := fun n d x => frT
  unfold F8 F8D
  simp only [List.map_cons, List.map_nil]
  rw [← e 1 2 (Rat.divInt 1 2) (by decide +kernel) (by decide +kernel), ← e 2 1 2 (by decide +kernel) (by decide +kernel), ← e (-1) 2 (Rat.divInt (-1) 2) (by decide +kernel) (by decide +kernel), ← e (-2) 1 (-2) (by decide +kernel) (by decide +kernel),
    ← e (-1) 1 (-1) (by decide +kernel) (by decide +kernel), ← e 1 3 (Rat.divInt 1 3) (by decide +kernel) (by decide +kernel), ← e 3 1 3 (by decide +kernel) (by decide +kernel), ← e (-1) 3 (Rat.divInt (-1) 3) (by decide +kernel) (by decide +kernel)]
  rfl
structure Dr (r : Rat) : Prop where
  in6 : In 6 4 r
  z : zb r ≤ 12
  far : r = 0 ∨ 1 / 3 ≤ r ∨ 1 / 3 ≤ -r
theorem dr_of {r : Rat} (h : ∃ n d : Int, r = Rat.divInt n d ∧ 0 < d ∧ d ≤ 3 ∧ n.natAbs ≤ 4) : Dr r := by
  obtain ⟨n, d, rfl, d0, d3, hn⟩ := h
  have e : Rat.divInt n d * (d : Rat) = (n : Rat) := by
    rw [Rat.mul_comm]
    exact divInt_mul (by omega)
  have pd : (0 : Rat) < (d : Rat) := Rat.intCast_pos.mpr d0
  have pd3 : (d : Rat) ≤ 3 := by
    have := Rat.intCast_le_intCast.mpr d3
    exact this
  have i6 : In 6 4 (Rat.divInt n d) := by
    have : d = 1 ∨ d = 2 ∨ d = 3 := by omega
    rcases this with rfl | rfl | rfl
    · exact in_div (D := 6) (d := 1) (by decide) ⟨6, by decide⟩ (by omega)
    · exact in_div (D := 6) (d := 2) (by decide) ⟨3, by decide⟩ (by omega)
    · exact in_div (D := 6) (d := 3) (by decide) ⟨2, by decide⟩ (by omega)
  refine ⟨i6, Nat.le_trans (in_zb (b := 6) (by decide) i6 (by decide) (by decide) (by decide)) (by decide), ?_⟩
  generalize Rat.divInt n d = r at *
  by_cases c : n = 0
  · left
    rw [c] at e
    have e : r * (d : Rat) = 0 := e
    exact (Rat.mul_eq_zero.mp e).resolve_right (by grind)
  · rcases int_one c with h | h
    · right
      left
      rw [← e] at h
      refine Classical.byContradiction fun no => ?_
      have a := Rat.mul_pos (show 0 < 1 / 3 - r by grind) pd
      grind
    · right
      right
      rw [← e] at h
      refine Classical.byContradiction fun no => ?_
      have a := Rat.mul_pos (show 0 < 1 / 3 - -r by grind) pd
      grind
inductive Start : Rat → Rat → Rat → Rat → Prop
  | two {f s h : Rat} (hf : Dr f) (hs : In 6 12 s ∨ s = f / 2 ∨ s = f / 3 ∨ s = -(f / 2) ∨ s = -(f / 3)) (sz : zb s ≤ 16) (hh : Dr h) : Start 2 f s h
  | gen {t a b c : Rat} (ht : t ∈ T13) (t2 : t ≠ 2) (ha : Dr a) (hb : In 36 12 b) (bz : zb b ≤ 16) (hc : In 36 12 c) (cz : zb c ≤ 12) (cl : -5 ≤ c) (ab : a + b = 0 ∨ 1 / 6 ≤ a + b ∨ 1 / 6 ≤ -(a + b)) : Start t (a + c) (b + c) (t * b - a + c)
theorem six_far {a b : Rat} (ha : Dr a) (hb : Dr b) : a + b = 0 ∨ 1 / 6 ≤ a + b ∨ 1 / 6 ≤ -(a + b) := by
  obtain ⟨n, h, _⟩ := in_add ha.in6 hb.in6
  have c6 : ((6 : Nat) : Rat) = 6 := rfl
  rw [c6] at h
  by_cases c : n = 0
  · left
    rw [c] at h
    have h : (a + b) * 6 = 0 := h
    grind
  · rcases int_one c with q | q
    · right; left; grind
    · right; right; grind
theorem t13_z {t : Rat} (h : t ∈ T13) : zb t ≤ 6 := by
  unfold T13 at h
  simp only [List.mem_cons, List.not_mem_nil, or_false] at h
  rcases h with rfl | rfl | rfl | rfl | rfl | rfl | rfl | rfl | rfl | rfl | rfl | rfl | rfl <;> decide +kernel
theorem f8_val {x : Rat} (hx : x ∈ F8) : x = 1 / 2 ∨ x = 2 ∨ x = -(1 / 2) ∨ x = -2 ∨ x = -1 ∨ x = 1 / 3 ∨ x = 3 ∨ x = -(1 / 3) := by
  have dv : ∀ (n d : Int), d ≠ 0 → Rat.divInt n d * (d : Rat) = (n : Rat) := fun n d h => by
    rw [Rat.mul_comm]
    exact divInt_mul h
  have c1 : ((1 : Int) : Rat) = 1 := rfl
  have cm : ((-1 : Int) : Rat) = -1 := rfl
  have c2 : ((2 : Int) : Rat) = 2 := rfl
  have c3 : ((3 : Int) : Rat) = 3 := rfl
  have e1 := dv 1 2 (by decide)
  have e2 := dv (-1) 2 (by decide)
  have e3 := dv 1 3 (by decide)
  have e4 := dv (-1) 3 (by decide)
  rw [c1, c2] at e1
  rw [cm, c2] at e2
  rw [c1, c3] at e3
  rw [cm, c3] at e4
  unfold F8 at hx
  simp only [List.mem_cons, List.not_mem_nil, or_false] at hx
  rcases hx with rfl | rfl | rfl | rfl | rfl | rfl | rfl | rfl <;> grind
theorem f8_ok {x a : Rat} (hx : x ∈ F8) (ha : Dr a) : In 36 12 (a * x) ∧ (a + a * x = 0 ∨ 1 / 6 ≤ a + a * x ∨ 1 / 6 ≤ -(a + a * x)) ∧ zb (a * x) ≤ 16 ∧ (In 6 12 (a * x) ∨ a * x = a / 2 ∨ a * x = a / 3 ∨ a * x = -(a / 2) ∨ a * x = -(a / 3)) := by
  have i6 : In 6 3 x := by
    unfold F8 at hx
    simp only [List.mem_cons, List.not_mem_nil, or_false] at hx
    rcases hx with rfl | rfl | rfl | rfl | rfl | rfl | rfl | rfl
    · exact ⟨3, by decide +kernel, by decide⟩
    · exact ⟨12, by decide +kernel, by decide⟩
    · exact ⟨-3, by decide +kernel, by decide⟩
    · exact ⟨-12, by decide +kernel, by decide⟩
    · exact ⟨-6, by decide +kernel, by decide⟩
    · exact ⟨2, by decide +kernel, by decide⟩
    · exact ⟨18, by decide +kernel, by decide⟩
    · exact ⟨-2, by decide +kernel, by decide⟩
  have i36 := in_mul ha.in6 i6
  refine ⟨i36, ?_, in_zb (b := 14) (by decide) i36 (by decide) (by decide) (by decide), ?_⟩
  · have far := ha.far
    rcases f8_val hx with rfl | rfl | rfl | rfl | rfl | rfl | rfl | rfl <;> grind
  · rcases f8_val hx with rfl | rfl | rfl | rfl | rfl | rfl | rfl | rfl
    · right; left; grind
    · left; exact in_le (by decide) (in_mul (D := 6) (E := 1) (C := 2) ha.in6 ⟨2, by decide +kernel, by decide⟩)
    · right; right; right; left; grind
    · left; exact in_le (by decide) (in_mul (D := 6) (E := 1) (C := 2) ha.in6 ⟨-2, by decide +kernel, by decide⟩)
    · left; exact in_le (by decide) (in_mul (D := 6) (E := 1) (C := 1) ha.in6 ⟨-1, by decide +kernel, by decide⟩)
    · right; right; left; grind
    · left; exact in_le (by decide) (in_mul (D := 6) (E := 1) (C := 3) ha.in6 ⟨3, by decide +kernel, by decide⟩)
    · right; right; right; right; grind
section
variable {st : List Cell} {Q : Vl → List Cell → Prop}
theorem drawn_ok {ds : List Int} {i k : Nat} (hk : st[k]? = some (Bx ds i)) (hi : i < 900000) (h : ∀ r : Rat, Dr r → Q (.d (fr r)) (st.set k (Bx ds (i + 2)))) : sp__law_fraction [.c k] st Q :=
  lfraction4_ok hk hi fun r hr => h r (dr_of hr)
theorem in36 {r : Rat} (h : Dr r) : In 36 12 r := in_le (by decide) (in_up (k := 6) (by decide) h.in6)
theorem start_ok {ds : List Int} {i : Nat} {k : Nat} (hk : st[k]? = some (Bx ds i)) (hi : i < 1000) (h : ∀ t f s hh : Rat, ∀ j : Nat, Start t f s hh → t ∈ T13 → Q (.d (.lst [fr t, fr f, fr s, fr hh])) (st.set k (Bx ds j))) : sp__law_start [.c k] st Q := by
  have hlt : k < st.length := (List.getElem?_eq_some_iff.mp hk).1
  have hs : ∀ c : Cell, (st.set k c)[k]? = some c := fun c => by simp [hlt]
  have hl : ∀ c : Cell, (st.set k c).length = st.length := fun c => List.length_set
  unfold sp__law_start
  refine ⟨rfl, ?_⟩
  let S : Option Vl → Option Vl → Option Vl → Option Vl → Option Vl → Option Vl → Option Vl → Nat → M := fun z1 z2 z3 z4 z5 z6 z7 j => ⟨[some (.c k), z1, z2, z3, z4, z5, z6, z7], st.set k (Bx ds j)⟩
  let q : Rat → Option Vl := fun x => some (.d (fr x))
  refine seq_mid (fun m => ∃ a : Int, m = S (some (.d (.int a))) none none none none none none (i + 1)) (fun K hK => draw2_ok hk (by decide) (by omega) fun a a0 a1 => hK _ ⟨a, rfl⟩) ?_
  rintro _ ⟨kd, rfl⟩
  let KD : Option Vl := some (.d (.int kd))
  refine seq_mid (fun m => ∃ t, t ∈ T13 ∧ m = S KD (q t) none none none none none (i + 2)) (fun K hK => ?_) ?_
  · refine ⟨lineN rfl, lineN rfl, lineN rfl, lineN rfl, lineN rfl, lineN rfl, lineN rfl, lineN rfl, lineN rfl, lineN rfl, lineN rfl, lineN rfl, lineN rfl, lineN rfl, ?_⟩
    refine draw2_ok (hs _) (by decide) (by omega) fun a a0 a1 => ?_
    rw [List.set_set]
    obtain ⟨t, ht, e⟩ := pickF (l := T13) a0 a1
    rw [← T13_eq] at e
    exact rIx_mk e (hK _ ⟨t, ht, rfl⟩)
  rintro _ ⟨t, ht, rfl⟩
  refine seq_mid (fun m => ∃ a, Dr a ∧ m = S KD (q t) (q a) none none none none (i + 4)) (fun K hK => drawn_ok (hs _) (by omega) fun a ha => hK _ ⟨a, ha, by
    rw [List.set_set]
    rfl⟩) ?_
  rintro _ ⟨a, ha, rfl⟩
  refine seq_mid (fun m => ∃ b, Dr b ∧ m = S KD (q t) (q a) (q b) none none none (i + 6)) (fun K hK => drawn_ok (hs _) (by omega) fun a ha => hK _ ⟨a, ha, by
    rw [List.set_set]
    rfl⟩) ?_
  rintro _ ⟨b0, hb0, rfl⟩
  refine seq_mid (fun m => ∃ c, (In 36 12 c ∧ zb c ≤ 12 ∧ -5 ≤ c) ∧ m = S KD (q t) (q a) (q b0) (q c) none none (i + 7)) (fun K hK => ?_) ?_
  · refine draw2_ok (hs _) (by decide) (by omega) fun w w0 w1 => ⟨trivial, ?_⟩
    rw [List.set_set]
    refine lfrac_ok (by decide) (lneg_ok (hK _ ⟨-Rat.divInt (w - 2) 2, ?_, rfl⟩))
    have i2 : In 2 5 (Rat.divInt (w - 2) 2) := in_div (D := 2) (d := 2) (by decide) ⟨1, by decide⟩ (by omega)
    have i36 : In 36 12 (Rat.divInt (w - 2) 2) := in_le (by decide) (in_up (k := 18) (by decide) i2)
    refine ⟨in_neg i36, ?_, ?_⟩
    · rw [zb_neg]
      have := in_zb (b := 6) (by decide) i2 (by decide) (by decide) (by decide)
      omega
    · have := (in_abs (by decide) i2).1
      have c5 : ((5 : Nat) : Rat) = 5 := rfl
      grind
  rintro _ ⟨c0, hc0, rfl⟩
  refine seq_mid (fun m => ∃ b j, (In 36 12 b ∧ (a + b = 0 ∨ 1 / 6 ≤ a + b ∨ 1 / 6 ≤ -(a + b)) ∧ zb b ≤ 16 ∧ (In 6 12 b ∨ b = a / 2 ∨ b = a / 3 ∨ b = -(a / 2) ∨ b = -(a / 3))) ∧ (j < 2000) ∧ m = S KD (q t) (q a) (q b) (q c0) none none j) (fun K hK => ?_) ?_
  · refine ⟨rfl, rfl, ?_⟩
    show if eqD (.int kd) (.int 0) = true then _ else _
    rw [eqD_int]
    refine ifd (fun c => ?_) fun c => hK _ ⟨b0, i + 7, ⟨in36 hb0, six_far ha hb0, by have := hb0.z; omega, .inl (in_le (by decide) hb0.in6)⟩, by omega, rfl⟩
    refine ⟨lineN rfl, lineN rfl, lineN rfl, lineN rfl, lineN rfl, lineN rfl, lineN rfl, lineN rfl, lineN rfl, ?_⟩
    refine draw2_ok (hs _) (by decide) (by omega) fun w w0 w1 => ?_
    rw [List.set_set]
    obtain ⟨x, hx, e⟩ := pickF (l := F8) w0 w1
    rw [← F8_eq] at e
    refine rIx_mk e ?_
    have fx := f8_ok hx ha
    have az := ha.z
    have xz : zb x ≤ 12 := by
      unfold F8 at hx
      simp only [List.mem_cons, List.not_mem_nil, or_false] at hx
      rcases hx with rfl | rfl | rfl | rfl | rfl | rfl | rfl | rfl <;> decide +kernel
    exact lmul2_ok (zm (by omega)) (hK _ ⟨a * x, i + 8, fx, by omega, rfl⟩)
  rintro _ ⟨b, j, hb, hj, rfl⟩
  refine seq_mid (fun m => ∃ c, (In 36 12 c ∧ zb c ≤ 12 ∧ -5 ≤ c) ∧ m = S KD (q t) (q a) (q b) (q c) none none j) (fun K hK => ?_) ?_
  · refine ⟨rfl, rfl, ?_⟩
    show if eqD (.int kd) (.int 1) = true then _ else _
    rw [eqD_int]
    refine ifd (fun c => ?_) fun c => hK _ ⟨c0, hc0, rfl⟩
    refine lneg_ok (hK _ ⟨-a, ⟨in_neg (in36 ha), by rw [zb_neg]; exact ha.z, ?_⟩, rfl⟩)
    have := (in_abs (by decide) ha.in6).1
    have c4 : ((4 : Nat) : Rat) = 4 := rfl
    grind
  rintro _ ⟨c, hc, rfl⟩
  have e2 : Dt.tup [.int 2, .int 1] = fr 2 := rfl
  have az := ha.z
  have tz := t13_z ht
  have bz := hb.2.2.1
  have cz := hc.2.1
  by_cases t2 : t = 2
  · refine ifs_t' (S KD (q t) (q a) (q b) (q c) none none j) (fun K hK => ⟨lineN rfl, sh_fr', sh_fr' (q := 2), ?_⟩) ?_
    · show K (eqD (fr t) (fr 2)) _
      rw [eqD_fr, decide_eq_true t2]
      exact hK
    · refine seq_mid (fun m => ∃ c', Dr c' ∧ m = S KD (q t) (q a) (q b) (q c) (q c') none (j + 2)) (fun K hK => drawn_ok (hs _) (by omega) fun a ha => hK _ ⟨a, ha, by
        rw [List.set_set]
        rfl⟩) ?_
      rintro _ ⟨h', hh', rfl⟩
      refine ⟨lineN rfl, ?_⟩
      rw [← hl (Bx ds (j + 2))]
      exact tk (h t a b h' (j + 2) (by rw [t2]; exact .two ha hb.2.2.2 bz hh') ht)
  refine guard_st (S KD (q t) (q a) (q b) (q c) none none j) (fun K hK => ⟨lineN rfl, sh_fr', sh_fr' (q := 2), ?_⟩) ?_
  · show K (eqD (fr t) (fr 2)) _
    rw [eqD_fr, decide_eq_false t2]
    exact hK
  have m1 := zb_mul t b
  refine seq_to (S KD (q t) (q a) (q b) (q c) (q (t * b - a)) none j) (fun K hK => lmul2_ok (zm (by omega)) (lsub2_ok (zm (by omega)) hK)) ?_
  have m2 := zb_sub (t * b) a
  refine ⟨lineN rfl, lineN rfl, trivial, ?_⟩
  refine ladd2_ok (x := a) (y := c) (zm (by omega)) ⟨slt rfl, trivial, ?_⟩
  refine ladd2_ok (x := b) (y := c) (zm (by omega)) ⟨slt rfl, trivial, ?_⟩
  refine ladd2_ok (x := t * b - a) (y := c) (zm (by omega)) ⟨slt rfl, trivial, ?_⟩
  refine ⟨slt rfl, ?_⟩
  rw [← hl (Bx ds j)]
  exact tk (h t (a + c) (b + c) (t * b - a + c) j (.gen ht t2 ha hb.1 bz hc.1 cz hc.2.2 hb.2.1) ht)
end
end C
end PG

set_option maxRecDepth 100000
set_option maxHeartbeats 4000000
namespace PG
namespace B
open PySem PySem.Spec PyProof.Rows L2 RT
section
variable {st : List Cell} {Q : Vl → List Cell → Prop}
theorem lless_ok {x y : Rat} (hz : zb x + zb y < ZM) (h : Q (.d (.bl (decide (x < y)))) st) : sp__law_less [.d (fr x), .d (fr y)] st Q := by
  unfold sp__law_less
  refine ⟨rfl, mk_nn (zb_num x) (PG.dn y) hz, mk_nn (zb_num y) (PG.dn x) (by omega), trivial, ?_⟩
  have e : decide (x.num * (y.den : Int) < y.num * (x.den : Int)) = decide (x < y) := decide_eq_decide.mpr (Rat.lt_iff x y).symm
  show Q (.d (.bl (decide (x.num * (y.den : Int) < y.num * (x.den : Int))))) (st.take st.length)
  rw [e]
  exact PG.tk h
end
end B
end PG

set_option maxRecDepth 100000
set_option maxHeartbeats 4000000
namespace PG
namespace C
open PySem PySem.Spec PyProof.Rows L2 RT
def vv (t p : Rat) : Rat → Rat → Nat → Rat
  | f, _, 0 => f
  | f, s, n + 1 => vv t p s (t * s - f + p) n
theorem vv_rec (t p : Rat) : ∀ (n : Nat) (f s : Rat), vv t p f s (n + 2) = t * vv t p f s (n + 1) - vv t p f s n + p
  | 0, f, s => rfl
  | n + 1, f, s => vv_rec t p n s (t * s - f + p)
theorem vv_sq {t c : Rat} : ∀ (n : Nat) (a b : Rat), vv t ((2 - t) * c) (a + c) (b + c) n = sq t a b n + c
  | 0, a, b => rfl
  | n + 1, a, b => by
    show vv t ((2 - t) * c) (b + c) (t * (b + c) - (a + c) + (2 - t) * c) n = sq t b (t * b - a) n + c
    rw [← vv_sq n b (t * b - a)]
    congr 1
    grind
theorem vv_pol {p : Rat} : ∀ (n : Nat) (f s : Rat), vv 2 p f s n = f + (n : Rat) * (s - f) + (n : Rat) * ((n : Rat) - 1) / 2 * p
  | 0, f, s => by
    have : ((0 : Nat) : Rat) = 0 := rfl
    rw [this]
    show f = _
    grind
  | n + 1, f, s => by
    show vv 2 p s (2 * s - f + p) n = _
    rw [vv_pol n]
    have : ((n + 1 : Nat) : Rat) = (n : Rat) + 1 := by rw [Rat.natCast_add]; rfl
    rw [this]
    grind
theorem pol_early {f s h : Rat} (hf : Dr f) (hs : In 6 12 s ∨ s = f / 2 ∨ s = f / 3 ∨ s = -(f / 2) ∨ s = -(f / 3)) (hh : Dr h) (ex : ∃ n : Nat, 0 < pol f s h (n : Rat)) : ∃ n : Nat, n ≤ 82 ∧ 0 < pol f s h (n : Rat) := by
  obtain ⟨f1, f2⟩ := in_abs (by decide) hf.in6
  obtain ⟨h1, h2⟩ := in_abs (by decide) hh.in6
  have c4 : ((4 : Nat) : Rat) = 4 := rfl
  rw [c4] at f1 f2 h1 h2
  have e0 : ((0 : Nat) : Rat) = 0 := rfl
  have e1 : ((1 : Nat) : Rat) = 1 := rfl
  have e2 : ((2 : Nat) : Rat) = 2 := rfl
  have e3 : ((3 : Nat) : Rat) = 3 := rfl
  have e25 : ((25 : Nat) : Rat) = 25 := rfl
  have e51 : ((51 : Nat) : Rat) = 51 := rfl
  have p0 : pol f s h 0 = f := by unfold pol; grind
  have p1 : pol f s h 1 = s := by unfold pol; grind
  by_cases cf : 0 < f
  · exact ⟨0, by decide, by rw [e0, p0]; exact cf⟩
  by_cases cs : 0 < s
  · exact ⟨1, by decide, by rw [e1, p1]; exact cs⟩
  -- bent down and rising: the top is early
  have down : ∀ q : Rat, 0 < q → h - s - (s - f) ≤ -q → s - f ≤ 50 * q → ∃ n : Nat, n ≤ 82 ∧ 0 < pol f s h (n : Rat) := fun q q0 hb hg => by
    obtain ⟨n, hn⟩ := ex
    have bn : h - s - (s - f) < 0 := by grind
    have tp := pol_top bn (n : Int)
    rw [Rat.intCast_natCast] at tp
    obtain ⟨u1, u2⟩ := upTo_spec ((s - f) / -(h - s - (s - f)))
    obtain ⟨k, hk⟩ : ∃ k, upTo ((s - f) / -(h - s - (s - f))) = k := ⟨_, rfl⟩
    rw [hk] at u1 u2 tp
    by_cases ck : 0 ≤ k
    · have kle : (k : Rat) < 51 + 1 := by
        have e : (s - f) / -(h - s - (s - f)) * -(h - s - (s - f)) = s - f := Rat.div_mul_cancel (by grind)
        generalize (s - f) / -(h - s - (s - f)) = τ at *
        refine Classical.byContradiction fun no => ?_
        have m := mul_le (show q ≤ -(h - s - (s - f)) by grind) (show 0 ≤ τ by grind)
        have := Rat.mul_pos (show 0 < τ - 50 by grind) q0
        grind
      have kle : k < 52 := by
        have c : ((52 : Int) : Rat) = 51 + 1 := by decide +kernel
        rw [← c] at kle
        exact Rat.intCast_lt_intCast.mp kle
      refine ⟨k.toNat, by omega, ?_⟩
      rw [← Rat.intCast_natCast, Int.toNat_of_nonneg ck]
      grind
    · -- then it only falls
      have : (k : Rat) ≤ -1 := by
        have := Rat.intCast_le_intCast.mpr (show k ≤ -1 by omega)
        exact this
      have e : (s - f) / -(h - s - (s - f)) * -(h - s - (s - f)) = s - f := Rat.div_mul_cancel (by grind)
      have neg : s - f < 0 := by
        generalize (s - f) / -(h - s - (s - f)) = τ at *
        have := Rat.mul_pos (show 0 < -τ by grind) (show 0 < -(h - s - (s - f)) by grind)
        grind
      exfalso
      unfold pol at hn
      have n0 : (0 : Rat) ≤ (n : Rat) := nat_cast_le (Nat.zero_le n)
      have nb : (0 : Rat) ≤ (n : Rat) * ((n : Rat) - 1) / 2 := by
        cases n with
        | zero => rw [e0]; grind
        | succ n =>
          have h1 : (0 : Rat) ≤ (n : Rat) := nat_cast_le (Nat.zero_le n)
          have : ((n + 1 : Nat) : Rat) = (n : Rat) + 1 := by rw [Rat.natCast_add]; rfl
          rw [this]
          have := Rat.mul_nonneg (show 0 ≤ (n : Rat) + 1 by grind) h1
          grind
      have m1 := mul_le (Rat.le_of_lt neg) n0
      have m2 := mul_le (Rat.le_of_lt bn) nb
      generalize (n : Rat) * ((n : Rat) - 1) / 2 = u at *
      grind
  have flat : h - s - (s - f) = 0 → ∃ n : Nat, 0 < s - f ∧ 0 < pol f s h (n : Rat) := fun hb => by
    obtain ⟨n, hn⟩ := ex
    refine ⟨n, ?_, hn⟩
    refine Classical.byContradiction fun no => ?_
    unfold pol at hn
    rw [hb] at hn
    have n0 : (0 : Rat) ≤ (n : Rat) := nat_cast_le (Nat.zero_le n)
    have := mul_le (show s - f ≤ 0 by grind) n0
    grind
  rcases hs with hs | hs | hs | hs | hs
  · -- sixths
    obtain ⟨x, x1, _⟩ := hf.in6
    obtain ⟨y, y1, _⟩ := hs
    obtain ⟨z, z1, _⟩ := hh.in6
    have c6 : ((6 : Nat) : Rat) = 6 := rfl
    rw [c6] at x1 y1 z1
    have eb : (h - s - (s - f)) * 6 = ((z - y - (y - x) : Int) : Rat) := by
      rw [Rat.intCast_sub, Rat.intCast_sub, Rat.intCast_sub, ← x1, ← y1, ← z1]
      grind
    have eg : (s - f) * 6 = ((y - x : Int) : Rat) := by
      rw [Rat.intCast_sub, ← x1, ← y1]
      grind
    by_cases cb : z - y - (y - x) = 0
    · rw [cb] at eb
      have eb : (h - s - (s - f)) * 6 = 0 := eb
      have eb : h - s - (s - f) = 0 := by grind
      obtain ⟨_, g0, _⟩ := flat eb
      have : y - x ≠ 0 := fun q => by
        rw [q] at eg
        have eg : (s - f) * 6 = 0 := eg
        grind
      refine ⟨25, by decide, ?_⟩
      rw [e25]
      unfold pol
      rw [eb]
      rcases int_one this with q | q
      · rw [← eg] at q
        grind
      · rw [← eg] at q
        grind
    · rcases int_one cb with q | q
      · rw [← eb] at q
        refine ⟨51, by decide, ?_⟩
        rw [e51]
        unfold pol
        grind
      · rw [← eb] at q
        exact down (1 / 6) (by grind) (by grind) (by grind)
  · -- half of it
    have eb : h - s - (s - f) = h := by grind
    by_cases ch : 0 < h
    · refine ⟨3, by decide, ?_⟩
      rw [e3]
      unfold pol
      grind
    · rcases hh.far with q | q | q
      · obtain ⟨_, g0, _⟩ := flat (by grind)
        refine ⟨3, by decide, ?_⟩
        rw [e3]
        unfold pol
        grind
      · grind
      · exact down (1 / 3) (by grind) (by grind) (by grind)
  · -- a third of it
    obtain ⟨x, x1, _⟩ := hf.in6
    obtain ⟨z, z1, _⟩ := hh.in6
    have c6 : ((6 : Nat) : Rat) = 6 := rfl
    rw [c6] at x1 z1
    have eb : (h - s - (s - f)) * 18 = ((3 * z + x : Int) : Rat) := by
      rw [Rat.intCast_add, Rat.intCast_mul, ← x1, ← z1]
      have : ((3 : Int) : Rat) = 3 := rfl
      rw [this]
      grind
    by_cases cb : 3 * z + x = 0
    · rw [cb] at eb
      have eb : (h - s - (s - f)) * 18 = 0 := eb
      have eb : h - s - (s - f) = 0 := by grind
      obtain ⟨_, g0, _⟩ := flat eb
      refine ⟨3, by decide, ?_⟩
      rw [e3]
      unfold pol
      rw [eb]
      grind
    · rcases int_one cb with q | q
      · rw [← eb] at q
        refine ⟨3, by decide, ?_⟩
        rw [e3]
        unfold pol
        grind
      · rw [← eb] at q
        exact down (1 / 18) (by grind) (by grind) (by grind)
  · -- the other sign: then nothing is above 0 but a start
    have f0 : f = 0 := by grind
    have s0 : s = 0 := by grind
    obtain ⟨n, hn⟩ := ex
    have hp : 0 < h := by
      refine Classical.byContradiction fun no => ?_
      unfold pol at hn
      rw [f0, s0] at hn
      have nb : (0 : Rat) ≤ (n : Rat) * ((n : Rat) - 1) / 2 := by
        cases n with
        | zero => rw [e0]; grind
        | succ n =>
          have h1 : (0 : Rat) ≤ (n : Rat) := nat_cast_le (Nat.zero_le n)
          have : ((n + 1 : Nat) : Rat) = (n : Rat) + 1 := by rw [Rat.natCast_add]; rfl
          rw [this]
          have := Rat.mul_nonneg (show 0 ≤ (n : Rat) + 1 by grind) h1
          grind
      have m2 := mul_le (show h ≤ 0 by grind) nb
      generalize (n : Rat) * ((n : Rat) - 1) / 2 = u at *
      grind
    refine ⟨2, by decide, ?_⟩
    rw [e2]
    unfold pol
    grind
  · have f0 : f = 0 := by grind
    have s0 : s = 0 := by grind
    obtain ⟨n, hn⟩ := ex
    have hp : 0 < h := by
      refine Classical.byContradiction fun no => ?_
      unfold pol at hn
      rw [f0, s0] at hn
      have nb : (0 : Rat) ≤ (n : Rat) * ((n : Rat) - 1) / 2 := by
        cases n with
        | zero => rw [e0]; grind
        | succ n =>
          have h1 : (0 : Rat) ≤ (n : Rat) := nat_cast_le (Nat.zero_le n)
          have : ((n + 1 : Nat) : Rat) = (n : Rat) + 1 := by rw [Rat.natCast_add]; rfl
          rw [this]
          have := Rat.mul_nonneg (show 0 ≤ (n : Rat) + 1 by grind) h1
          grind
      have m2 := mul_le (show h ≤ 0 by grind) nb
      generalize (n : Rat) * ((n : Rat) - 1) / 2 = u at *
      grind
    refine ⟨2, by decide, ?_⟩
    rw [e2]
    unfold pol
    grind
theorem class13 {t : Rat} (ht : t ∈ T13) : (t = 2 ∨ cyc t ∨ t = -2 ∨ (t * t < 4 ∧ ¬ cyc t) ∨ 5 / 2 ≤ t ∨ t ≤ -(5 / 2)) ∧ t ≤ 4 ∧ -4 ≤ t ∧ (∃ p : Int, t * 12 = (p : Rat)) ∧
    (decide (t.num * t.num < 4 * (t.den : Int) * (t.den : Int)) && decide ((1 : Int) < (t.den : Int))) = decide (t * t < 4 ∧ ¬ cyc t) := by
  unfold T13 at ht
  simp only [List.mem_cons, List.not_mem_nil, or_false] at ht
  have b5 : (5 : Rat) / 2 = Rat.divInt 5 2 := by
    have : ((2 : Int) : Rat) * Rat.divInt 5 2 = ((5 : Int) : Rat) := divInt_mul (by decide)
    have c5 : ((5 : Int) : Rat) = 5 := rfl
    have c2 : ((2 : Int) : Rat) = 2 := rfl
    rw [c5, c2] at this
    grind
  rw [b5]
  rcases ht with rfl | rfl | rfl | rfl | rfl | rfl | rfl | rfl | rfl | rfl | rfl | rfl | rfl
  · exact ⟨.inr (.inl (by decide +kernel)), by decide +kernel, by decide +kernel, ⟨-12, by decide +kernel⟩, by decide +kernel⟩
  · exact ⟨.inr (.inl (by decide +kernel)), by decide +kernel, by decide +kernel, ⟨0, by decide +kernel⟩, by decide +kernel⟩
  · exact ⟨.inr (.inl (by decide +kernel)), by decide +kernel, by decide +kernel, ⟨12, by decide +kernel⟩, by decide +kernel⟩
  · exact ⟨.inl rfl, by decide +kernel, by decide +kernel, ⟨24, by decide +kernel⟩, by decide +kernel⟩
  · exact ⟨.inr (.inr (.inl rfl)), by decide +kernel, by decide +kernel, ⟨-24, by decide +kernel⟩, by decide +kernel⟩
  · exact ⟨.inr (.inr (.inr (.inr (.inl (by decide +kernel))))), by decide +kernel, by decide +kernel, ⟨30, by decide +kernel⟩, by decide +kernel⟩
  · exact ⟨.inr (.inr (.inr (.inr (.inr (by decide +kernel))))), by decide +kernel, by decide +kernel, ⟨-30, by decide +kernel⟩, by decide +kernel⟩
  · exact ⟨.inr (.inr (.inr (.inr (.inl (by decide +kernel))))), by decide +kernel, by decide +kernel, ⟨36, by decide +kernel⟩, by decide +kernel⟩
  · exact ⟨.inr (.inr (.inr (.inr (.inr (by decide +kernel))))), by decide +kernel, by decide +kernel, ⟨-40, by decide +kernel⟩, by decide +kernel⟩
  · exact ⟨.inr (.inr (.inr (.inl (by decide +kernel)))), by decide +kernel, by decide +kernel, ⟨6, by decide +kernel⟩, by decide +kernel⟩
  · exact ⟨.inr (.inr (.inr (.inl (by decide +kernel)))), by decide +kernel, by decide +kernel, ⟨-18, by decide +kernel⟩, by decide +kernel⟩
  · exact ⟨.inr (.inr (.inr (.inl (by decide +kernel)))), by decide +kernel, by decide +kernel, ⟨21, by decide +kernel⟩, by decide +kernel⟩
  · exact ⟨.inr (.inr (.inr (.inr (.inl (by decide +kernel))))), by decide +kernel, by decide +kernel, ⟨48, by decide +kernel⟩, by decide +kernel⟩
theorem nums13 {t a b c : Rat} (ht : t ∈ T13) (ha : Dr a) (hb : In 36 12 b) (hc : In 36 12 c) : Nums 36 12 12 4 24 t a b (-c) := by
  obtain ⟨_, t1, t2, ⟨p, hp⟩, _⟩ := class13 ht
  exact ⟨by decide, by decide, in36 ha, hb, in_neg hc, t1, t2, ⟨p, hp⟩, by decide, by decide⟩
def prt (t f s h : Rat) : Rat := h - t * s + f
def hi (t f s h : Rat) (n : Nat) : Bool := (List.range n).any fun i => decide (0 < vv t (prt t f s h) f s i)
theorem hi_iff {t f s h : Rat} {n : Nat} : hi t f s h n = true ↔ ∃ i, i < n ∧ 0 < vv t (prt t f s h) f s i := by
  unfold hi
  rw [List.any_eq_true]
  constructor
  · rintro ⟨i, h1, h2⟩
    exact ⟨i, List.mem_range.mp h1, of_decide_eq_true h2⟩
  · rintro ⟨i, h1, h2⟩
    exact ⟨i, List.mem_range.mpr h1, decide_eq_true h2⟩
theorem hi_succ {t f s h : Rat} {n : Nat} : hi t f s h (n + 1) = (hi t f s h n || decide (0 < vv t (prt t f s h) f s n)) := by
  unfold hi
  rw [List.range_succ, List.any_append]
  simp
theorem prt_gen {t a b c : Rat} : prt t (a + c) (b + c) (t * b - a + c) = (2 - t) * c := by
  unfold prt
  grind
theorem mid_gen {t a b c : Rat} (t2 : t ≠ 2) : mid t (a + c) (b + c) (t * b - a + c) = c := by
  have : mid t (a + c) (b + c) (t * b - a + c) = ((2 - t) * c) / (2 - t) := by
    unfold mid
    rw [← prt_gen (a := a) (b := b)]
    rfl
  rw [this]
  have d0 : (2 : Rat) - t ≠ 0 := fun x => t2 (by grind)
  grind
theorem vv_two {f s h : Rat} (n : Nat) : vv 2 (prt 2 f s h) f s n = pol f s h (n : Rat) := by
  rw [vv_pol]
  unfold pol prt
  have : h - 2 * s + f = h - s - (s - f) := by grind
  rw [this]
theorem vv_gen {t a b c : Rat} (n : Nat) : vv t (prt t (a + c) (b + c) (t * b - a + c)) (a + c) (b + c) n = sq t a b n + c := by
  rw [prt_gen, vv_sq]
theorem told_eq {t f s h : Rat} (S : Start t f s h) (ht : t ∈ T13) (nd : ¬ (t * t < 4 ∧ ¬ cyc t)) {r : Bool} (hr : Res t f s h r) : r = !hi t f s h 83 := by
  have fin : ((r = true) ↔ ∀ n : Nat, vv t (prt t f s h) f s n ≤ 0) → ((∃ n : Nat, 0 < vv t (prt t f s h) f s n) → ∃ n, n ≤ 82 ∧ 0 < vv t (prt t f s h) f s n) → r = !hi t f s h 83 := fun h1 h2 => by
    rw [Bool.eq_iff_iff, h1, Bool.not_eq_true', ← Bool.not_eq_true, hi_iff]
    constructor
    · rintro all ⟨i, _, hi⟩
      have := all i
      grind
    · intro no n
      refine Rat.not_lt.mp fun hn => ?_
      obtain ⟨i, hi, q⟩ := h2 ⟨n, hn⟩
      exact no ⟨i, by omega, q⟩
  cases S with
  | two hf hs sz hh =>
    unfold Res at hr
    rw [if_pos rfl] at hr
    refine fin ?_ ?_
    · rw [hr]
      constructor
      · intro all n
        rw [vv_two]
        exact all n
      · intro all n
        rw [← vv_two]
        exact all n
    · rintro ⟨n, hn⟩
      rw [vv_two] at hn
      obtain ⟨k, h1, h2⟩ := pol_early hf hs hh ⟨n, hn⟩
      exact ⟨k, h1, by rw [vv_two]; exact h2⟩
  | @gen t a b c _ t2 ha hb bz hc cz cl ab =>
    unfold Res at hr
    rw [if_neg t2, if_neg nd, mid_gen t2] at hr
    have ea : a + c - c = a := by grind
    have eb : b + c - c = b := by grind
    rw [ea, eb] at hr
    unfold All at hr
    refine fin ?_ ?_
    · rw [hr]
      constructor
      · intro all n
        rw [vv_gen]
        have := all n
        grind
      · intro all n
        have := all n
        rw [vv_gen] at this
        grind
    · rintro ⟨n, hn⟩
      rw [vv_gen] at hn
      suffices ∃ k, k ≤ 82 ∧ -c < sq t a b k by
        obtain ⟨k, h1, h2⟩ := this
        exact ⟨k, h1, by rw [vv_gen]; grind⟩
      have hn : -c < sq t a b n := by grind
      have per : ∀ {p : Nat}, 0 < p → p ≤ 6 → sq t a b p = a → sq t a b (p + 1) = b → ∃ k, k ≤ 82 ∧ -c < sq t a b k := fun {p} p0 p6 h0 h1 => by
        obtain ⟨i, hi, e⟩ := sq_mod p0 h0 h1 n
        exact ⟨i, by omega, by rw [← e]; exact hn⟩
      rcases (class13 ht).1 with h | h | h | h | h
      · exact (t2 h).elim
      · rcases h with h | h | h
        · subst h
          exact per (by decide) (by decide) (cyc3 a b).1 (cyc3 a b).2
        · subst h
          exact per (by decide) (by decide) (cyc4 a b).1 (cyc4 a b).2
        · subst h
          exact per (by decide) (by decide) (cyc6 a b).1 (cyc6 a b).2
      · subst h
        obtain ⟨a1, a2⟩ := in_abs (by decide) ha.in6
        have c4 : ((4 : Nat) : Rat) = 4 := rfl
        have c56 : ((56 : Nat) : Rat) = 56 := rfl
        have c57 : ((57 : Nat) : Rat) = 57 := rfl
        rw [c4] at a1 a2
        rcases ab with q | q | q
        · by_cases c1 : -c < a
          · exact ⟨0, by decide, c1⟩
          · by_cases c2 : -c < b
            · exact ⟨1, by decide, c2⟩
            · have := mtwo_all (β := -c) q (Rat.not_lt.mp c1) (Rat.not_lt.mp c2) n
              grind
        · exact ⟨57, by decide, mtwo_high (.inr ⟨by decide, by rw [c57]; grind⟩)⟩
        · exact ⟨56, by decide, mtwo_high (.inl ⟨by decide, by rw [c56]; grind⟩)⟩
      · exact (nd h).elim
      · obtain ⟨j, h1, h2⟩ := (nums13 ht ha hb hc).early h ⟨n, hn⟩
        exact ⟨j, by omega, h2⟩
theorem vv_z {t f s h : Rat} (S : Start t f s h) (ht : t ∈ T13) (n : Nat) (hn : n ≤ 100) : zb (vv t (prt t f s h) f s n) ≤ 2000 := by
  cases S with
  | @two f s h hf hs sz hh =>
    rw [vv_pol]
    have z1 := hf.z
    have z2 := hh.z
    have zn : zb (n : Rat) ≤ 10 := by
      have := zb_int (n : Int)
      rw [Rat.intCast_natCast] at this
      have e := log_le (z := (n : Int)) (n := 100) (b := 6) (by omega) (by decide)
      omega
    have o1 : zb (1 : Rat) ≤ 2 := by decide +kernel
    have o2 : zb (2 : Rat) ≤ 3 := by decide +kernel
    have m1 := zb_sub s f
    have m2 := zb_mul (n : Rat) (s - f)
    have m3 := zb_sub (n : Rat) 1
    have m4 := zb_mul (n : Rat) ((n : Rat) - 1)
    have m5 := zb_div ((n : Rat) * ((n : Rat) - 1)) 2
    have m6 := zb_mul 2 s
    have m7 := zb_sub h (2 * s)
    have m8 := zb_add (h - 2 * s) f
    have m9 := zb_mul ((n : Rat) * ((n : Rat) - 1) / 2) (prt 2 f s h)
    have m10 := zb_add f ((n : Rat) * (s - f))
    have m11 := zb_add (f + (n : Rat) * (s - f)) ((n : Rat) * ((n : Rat) - 1) / 2 * prt 2 f s h)
    have e : zb (prt 2 f s h) = zb (h - 2 * s + f) := rfl
    omega
  | @gen t a b c _ t2 ha hb bz hc cz cl ab =>
    rw [vv_gen]
    have z1 := (nums13 ht ha hb hc).sqZ (s := 6) (by decide) (by decide) (by decide) (by decide) n
    have m := zb_add (sq t a b n) c
    omega
theorem start_z {t f s h : Rat} (S : Start t f s h) (ht : t ∈ T13) : zb f ≤ 100 ∧ zb s ≤ 100 ∧ zb h ≤ 100 := by
  have tz := t13_z ht
  cases S with
  | two hf hs sz hh =>
    have := hf.z
    have := hh.z
    exact ⟨by omega, by omega, by omega⟩
  | @gen t a b c _ t2 ha hb bz hc cz cl ab =>
    have az := ha.z
    have m1 := zb_add a c
    have m2 := zb_add b c
    have m3 := zb_mul t b
    have m4 := zb_sub (t * b) a
    have m5 := zb_add (t * b - a) c
    exact ⟨by omega, by omega, by omega⟩
theorem eqD_ones1 {α : Type} (l : List α) : eqD (.lst (l.map fun _ => Dt.int 1)) (.lst []) = l.isEmpty := by
  cases l <;> rfl
theorem dense_hi {t f s h : Rat} (S : Start t f s h) (td : t * t < 4 ∧ ¬ cyc t) {n : Nat} (hh : hi t f s h n = true) : ¬ (0 ≤ -mid t f s h ∧ 4 * Fm t (f - mid t f s h) (s - mid t f s h) ≤ -mid t f s h * -mid t f s h * (4 - t * t)) := by
  obtain ⟨i, _, hi'⟩ := hi_iff.mp hh
  cases S with
  | two hf hs sz hh => exact absurd td.1 (by decide +kernel)
  | @gen t a b c _ t2 ha hb bz hc cz cl ab =>
    rw [mid_gen t2, show a + c - c = a by grind, show b + c - c = b by grind]
    rintro ⟨h1, h2⟩
    rw [vv_gen] at hi'
    have := dense_le h1 td.1 h2 i
    grind
theorem law_k52 : LawD 63 sp_law_38 := fun ns hl hb => by
  unfold sp_law_38
  refine ⟨rfl, ?_⟩
  let sc : Dt := .lst (ns.map .int)
  let X : Option Vl → Option Vl → Option Vl → Option Vl → Option Vl → Option Vl → Option Vl → Option Vl → Option Vl → Option Vl → Option Vl → Option Vl → Option Vl → Option Vl → Option Vl → Option Vl → Option Vl → List Cell → M := fun z2 z3 z4 z5 z6 z7 z8 z9 z10 z11 z12 z13 z14 z15 z16 z17 z18 st => ⟨[some (.d sc), some (.c 0), z2, z3, z4, z5, z6, z7, z8, z9, z10, z11, z12, z13, z14, z15, z16, z17, z18], st⟩
  refine seq_mid (fun m => ∃ ds : List Int, m = X none none none none none none none none none none none none none none none none none [Bx ds 0]) (fun K hK => box_ok hb (by decide) (by decide) fun ds hd hdl => hK _ ⟨ds, rfl⟩) ?_
  rintro _ ⟨ds, rfl⟩
  let q : Rat → Option Vl := fun x => some (.d (fr x))
  refine seq_mid (fun m => ∃ t f s h j, Start t f s h ∧ t ∈ T13 ∧ m = X (q t) (q f) (q s) (q h) none none none none none none none none none none none none none [Bx ds j]) (fun K hK => ?_) ?_
  · refine start_ok (k := 0) (i := 0) (ds := ds) rfl (by decide) fun t f s h j S ht => ?_
    exact ⟨rfl, hK _ ⟨t, f, s, h, j, S, ht, rfl⟩⟩
  rintro _ ⟨t, f, s, h, j, S, ht, rfl⟩
  obtain ⟨cl, t1, t2', _, cd⟩ := class13 ht
  have tz := t13_z ht
  obtain ⟨fz, sz, hz⟩ := start_z S ht
  have vz := vv_z S ht
  let T := q t
  let F := q f
  let A := q s
  let H := q h
  let St : List Cell := [Bx ds j]
  have o2 : zb (2 : Rat) ≤ 4 := by decide +kernel
  have o4 : zb (4 : Rat) ≤ 4 := by decide +kernel
  -- what is told
  refine seq_mid (fun m => ∃ r, Res t f s h r ∧ m = X T F A H (some (.d (.bl r))) none none none none none none none none none none none none St) (fun K hK => ?_) ?_
  · refine stays_ok (D := 36) (V := 12) (q0 := 12) (T := 4) (N := 24) (e := 6) (z := 200) (by decide) (by decide) (by omega) (by omega) (by omega) (by omega) (fun n1 n2 n3 n4 => ?_) (by decide) (by decide) (by decide) (by decide) (by decide) (by decide) fun r hr => hK _ ⟨r, hr, rfl⟩
    refine ⟨?_, ?_⟩
    · rcases cl with c | c | c | c | c
      · exact (n1 c).elim
      · exact (n2 c).elim
      · exact (n3 c).elim
      · exact (n4 c.1).elim
      · exact c
    · cases S with
      | two hf hs sz hh => exact (n1 rfl).elim
      | @gen t a b c _ t2 ha hb bz hc cz cl ab =>
        rw [mid_gen t2, show a + c - c = a by grind, show b + c - c = b by grind]
        exact nums13 ht ha hb hc
  rintro _ ⟨r, hr, rfl⟩
  let R : Option Vl := some (.d (.bl r))
  refine seq_to (X T F A H R (some (.d (.lst [fr f, fr s, fr h]))) none none none none none none none none none none none St) (fun K hK => ⟨lineN rfl, hK⟩) ?_
  let L : Option Vl := some (.d (.lst [fr f, fr s, fr h]))
  have m1 := zb_mul t s
  have m2 := zb_sub h (t * s)
  have m3 := zb_add (h - t * s) f
  obtain ⟨p, hp⟩ : ∃ p, prt t f s h = p := ⟨_, rfl⟩
  have hp' : h - t * s + f = p := hp
  refine seq_to (X T F A H R L (q p) none none none none none none none none none none St) (fun K hK => ?_) ?_
  · refine lmul2_ok (zm (by omega)) (lsub2_ok (zm (by omega)) (ladd2_ok (zm (by omega)) ?_))
    rw [hp']
    exact hK
  have e2 : Dt.tup [.int 2, .int 1] = fr 2 := rfl
  have pz : zb p ≤ 400 := by rw [← hp']; omega
  refine seq_to (X T F A H R L (q p) none none none none none none none none none none St) (fun K hK => ?_) ?_
  · refine ⟨lineN rfl, sh_fr', sh_fr' (q := 2), ?_⟩
    show if eqD (fr t) (fr 2) = true then _ else _
    rw [eqD_fr]
    refine ifd (fun c => ?_) fun c => hK
    have m4 := zb_sub h s
    have m5 := zb_sub s f
    refine lsub2_ok (zm (by omega)) (lsub2_ok (zm (by omega)) (lsub2_ok (zm (by omega)) ?_))
    rw [show h - s - (s - f) = p by rw [← hp', c]; grind]
    exact hK
  rw [hp] at vz
  have v0 : vv t p f s 0 = f := rfl
  have v1 : vv t p f s 1 = s := rfl
  have v2 : vv t p f s 2 = h := by
    show t * s - f + p = h
    rw [← hp']
    grind
  have h3 : hi t f s h 3 = (decide (0 < f) || decide (0 < s) || decide (0 < h)) := by
    rw [hi_succ, hi_succ, hi_succ, hp, v0, v1, v2]
    rfl
  refine seq_to (X T F A H R L (q p) (some (.d (.bl (hi t f s h 3)))) none none none none none none none none none St) (fun K hK => ?_) ?_
  · refine filt_map (f := fr) (h := fun _ => Dt.int 1) (p := fun x => decide (0 < x)) [f, s, h] [] (fun x _ P hP => ⟨trivial, ?_⟩) (fun x _ C hC => hC) (by show 0 + 3 ≤ 100000; decide) ?_
    · show P (decide ((0 : Int) < x.num)) _
      rw [show decide ((0 : Int) < x.num) = decide (0 < x) from decide_eq_decide.mpr (num_pos_iff x)]
      exact hP
    · refine ⟨Nat.zero_le _, sh_ok (n := 1) (sh_lst (all_map fun _ _ => sh_int)), sh_ok (n := 1) (sh_lst all_nil), ?_⟩
      show K (X T F A H R L (q p) (some (.d (.bl (!eqD (.lst ((([] : List Rat) ++ [f, s, h].filter fun x => decide (0 < x)).map fun _ => Dt.int 1)) (.lst []))))) none none none none none none none none none St)
      rw [eqD_ones1, List.nil_append]
      have e : (!([f, s, h].filter fun x => decide (0 < x)).isEmpty) = hi t f s h 3 := by
        rw [h3]
        simp only [List.filter_cons, List.filter_nil]
        cases decide (0 < f) <;> cases decide (0 < s) <;> cases decide (0 < h) <;> rfl
      rw [e]
      exact hK
  refine seq_to (X T F A H R L (q p) (some (.d (.bl (hi t f s h 3)))) (q s) none none none none none none none none St) (fun K hK => hK) ?_
  refine seq_to (X T F A H R L (q p) (some (.d (.bl (hi t f s h 3)))) (q s) (q h) none none none none none none none St) (fun K hK => hK) ?_
  refine seq_mid (fun m => ∃ z10 z11 z12, m = X T F A H R L (q p) (some (.d (.bl (hi t f s h 83)))) z10 z11 z12 none none none none none none St) (fun K hK => ?_) ?_
  · refine ⟨⟨by decide, by decide⟩, range_inv (fun n lo m => 0 ≤ lo ∧ lo + n = 80 ∧ ∃ z12, m = X T F A H R L (q p) (some (.d (.bl (hi t f s h (lo.toNat + 3))))) (q (vv t p f s (lo.toNat + 1))) (q (vv t p f s (lo.toNat + 2))) z12 none none none none none none St) ?_ ?_ 80 0 _ ⟨Int.le_refl _, rfl, none, by
      show X T F A H R L (q p) (some (.d (.bl (hi t f s h 3)))) (q s) (q h) none none none none none none none St = X T F A H R L (q p) (some (.d (.bl (hi t f s h 3)))) (q (vv t p f s 1)) (q (vv t p f s 2)) none none none none none none none St
      rw [v1, v2]⟩⟩
    · rintro n lo _ K2 hK2 ⟨l0, l1, z12, rfl⟩
      obtain ⟨i, rfl⟩ : ∃ i : Nat, lo = (i : Int) := ⟨lo.toNat, by omega⟩
      rw [Int.toNat_natCast]
      have w1 := vz (i + 1) (by omega)
      have w2 := vz (i + 2) (by omega)
      have w3 := vz (i + 3) (by omega)
      have m4 := zb_mul t (vv t p f s (i + 2))
      have m5 := zb_sub (t * vv t p f s (i + 2)) (vv t p f s (i + 1))
      refine seq_to (X T F A H R L (q p) (some (.d (.bl (hi t f s h (i + 3))))) (q (vv t p f s (i + 2))) (q (vv t p f s (i + 3))) (some (.d (.int (i : Int)))) none none none none none none St) (fun K hK => ?_) ?_
      · refine lmul2_ok (zm (by omega)) (lsub2_ok (zm (by omega)) (ladd2_ok (zm (by omega)) ?_))
        rw [vv_rec t p (i + 1)] at hK
        exact hK
      · have done : K2 (X T F A H R L (q p) (some (.d (.bl (hi t f s h (i + 3) || decide (0 < vv t p f s (i + 3)))))) (q (vv t p f s (i + 2))) (q (vv t p f s (i + 3))) (some (.d (.int (i : Int)))) none none none none none none St) := by
          refine hK2 _ ⟨by omega, by omega, some (.d (.int (i : Int))), ?_⟩
          rw [show ((i : Int) + 1).toNat = i + 1 by omega, show i + 1 + 3 = (i + 3) + 1 by omega, hi_succ (n := i + 3), hp]
        show if hi t f s h (i + 3) = true then _ else _
        cases hb : hi t f s h (i + 3) with
        | true =>
          rw [if_pos rfl]
          rw [hb, Bool.true_or] at done
          exact done
        | false =>
          rw [if_neg (by decide)]
          rw [hb, Bool.false_or] at done
          refine ⟨trivial, ?_⟩
          have e : decide ((0 : Int) < (vv t p f s (i + 3)).num) = decide (0 < vv t p f s (i + 3)) := decide_eq_decide.mpr (num_pos_iff _)
          rw [← e] at done
          exact done
    · rintro lo _ ⟨l0, l1, z12, rfl⟩
      refine hK _ ⟨q (vv t p f s (lo.toNat + 1)), q (vv t p f s (lo.toNat + 2)), z12, ?_⟩
      rw [show lo.toNat + 3 = 83 by omega]
  rintro _ ⟨z10, z11, z12, rfl⟩
  have fr_bl : ∀ b : Bool, shows (.bl b) := B.shows_bl
  let Y : M := X T F A H R L (q p) (some (.d (.bl (hi t f s h 83)))) z10 z11 z12 none none none none none none St
  have dsm : t.den < 32 := by
    have := zb_den t
    exact (Nat.log2_lt (k := 5) (by have := t.den_pos; omega)).mp (by omega)
  have cond : ∀ (K : Bool → M → Prop), K (decide (t * t < 4 ∧ ¬ cyc t)) Y → dAnd (dTest (dOp RT.rLt (dOp RT.rMul (dOp RT.rIx (dVar 2) (dC (.int 0))) (dOp RT.rIx (dVar 2) (dC (.int 0)))) (dOp RT.rMul (dOp RT.rMul (dC (.int 4)) (dOp RT.rIx (dVar 2) (dC (.int 1)))) (dOp RT.rIx (dVar 2) (dC (.int 1)))))) (dTest (dOp RT.rGt (dOp RT.rIx (dVar 2) (dC (.int 1))) (dC (.int 1)))) Y K := fun K hK => by
    refine ⟨mk_nn (zb_num t) (zb_num t) (zm (by omega)), mk_nn (i := 4) (j := zb t) (a := 4) (by decide) (PG.dn t) (zm (by omega)), mulok ?_, trivial, ?_⟩
    · have e := log_le (z := 4 * (t.den : Int)) (n := 127) (b := 6) (by omega) (by decide)
      have e2 := log_le (z := (t.den : Int)) (n := 31) (b := 4) (by omega) (by decide)
      exact zm (by omega)
    rw [← cd] at hK
    show if decide (t.num * t.num < 4 * (t.den : Int) * (t.den : Int)) = true then _ else _
    cases hc : decide (t.num * t.num < 4 * (t.den : Int) * (t.den : Int)) with
    | true =>
      rw [if_pos rfl]
      rw [hc, Bool.true_and] at hK
      exact ⟨trivial, hK⟩
    | false =>
      rw [if_neg (by decide)]
      rw [hc, Bool.false_and] at hK
      exact hK
  by_cases td : t * t < 4 ∧ ¬ cyc t
  · refine ifs_t' Y (fun K hK => cond K (by rw [decide_eq_true td]; exact hK)) ?_
    have t2 : t ≠ 2 := fun e => by
      rw [e] at td
      exact absurd td.1 (by decide +kernel)
    have d0 : (2 : Rat) - t ≠ 0 := fun x => t2 (by grind)
    unfold Res at hr
    rw [if_neg t2, if_pos td] at hr
    have dh := fun x => dense_hi S td (n := 83) x
    obtain ⟨c, hc⟩ : ∃ c, mid t f s h = c := ⟨_, rfl⟩
    have hc' : p / (2 - t) = c := by rw [← hp']; exact hc
    rw [hc] at hr dh
    have n1 := zb_sub 2 t
    have n2 := zb_div p (2 - t)
    rw [hc'] at n2
    have n3 := zb_sub f c
    have n4 := zb_sub s c
    obtain ⟨a, ha⟩ : ∃ a, f - c = a := ⟨_, rfl⟩
    obtain ⟨b, hbb⟩ : ∃ b, s - c = b := ⟨_, rfl⟩
    rw [ha, hbb] at hr dh
    rw [ha] at n3
    rw [hbb] at n4
    obtain ⟨HI, hHI⟩ : ∃ b, hi t f s h 83 = b := ⟨_, rfl⟩
    rw [hHI] at dh
    let B83 : Option Vl := some (.d (.bl HI))
    refine seq_to (X T F A H R L (q p) B83 z10 z11 z12 (q c) none none none none none St) (fun K hK => ?_) ?_
    · refine ⟨lineN rfl, ?_⟩
      refine lsub2_ok (x := 2) (y := t) (zm (by omega)) ?_
      refine ldiv_ok (x := p) (y := 2 - t) d0 (zm (by omega)) ?_
      rw [hc']
      show K (X T F A H R L (q p) (some (.d (.bl (hi t f s h 83)))) z10 z11 z12 (q c) none none none none none St)
      rw [hHI]
      exact hK
    refine seq_to (X T F A H R L (q p) B83 (q a) z11 z12 (q c) none none none none none St) (fun K hK => lsub2_ok (zm (by omega)) (by rw [ha]; exact hK)) ?_
    refine seq_to (X T F A H R L (q p) B83 (q a) (q b) z12 (q c) none none none none none St) (fun K hK => lsub2_ok (zm (by omega)) (by rw [hbb]; exact hK)) ?_
    have k1 := zb_mul a a
    have k2 := zb_mul t a
    have k3 := zb_mul (t * a) b
    have k4 := zb_sub (a * a) (t * a * b)
    have k5 := zb_mul b b
    have k6 := zb_add (a * a - t * a * b) (b * b)
    refine seq_to (X T F A H R L (q p) B83 (q a) (q b) z12 (q c) (q (Fm t a b)) none none none none St) (fun K hK => ?_) ?_
    · exact lmul2_ok (x := a) (y := a) (zm (by omega)) (lmul2_ok (x := t) (y := a) (zm (by omega)) (lmul2_ok (x := t * a) (y := b) (zm (by omega)) (lsub2_ok (x := a * a) (y := t * a * b) (zm (by omega)) (lmul2_ok (x := b) (y := b) (zm (by omega)) (ladd2_ok (x := a * a - t * a * b) (y := b * b) (zm (by omega)) hK)))))
    have e4 : Dt.tup [.int 4, .int 1] = fr 4 := rfl
    have fz2 : zb (Fm t a b) ≤ 10000 := by
      show zb (a * a - t * a * b + b * b) ≤ _
      omega
    have k7 := zb_mul 4 (Fm t a b)
    refine seq_to (X T F A H R L (q p) B83 (q a) (q b) z12 (q c) (q (Fm t a b)) (q (4 * Fm t a b)) none none none St) (fun K hK => ⟨lineN rfl, lmul2_ok (x := 4) (zm (by omega)) hK⟩) ?_
    have k8 := zb_mul c c
    have k9 := zb_mul t t
    have k10 := zb_sub 4 (t * t)
    have k11 := zb_mul (c * c) (4 - t * t)
    refine seq_to (X T F A H R L (q p) B83 (q a) (q b) z12 (q c) (q (Fm t a b)) (q (4 * Fm t a b)) (q (c * c * (4 - t * t))) none none St) (fun K hK => ?_) ?_
    · refine lmul2_ok (x := c) (y := c) (zm (by omega)) ⟨lineN rfl, ?_⟩
      exact lmul2_ok (x := t) (y := t) (zm (by omega)) (lsub2_ok (x := 4) (y := t * t) (zm (by omega)) (lmul2_ok (x := c * c) (y := 4 - t * t) (zm (by omega)) hK))
    have eb : r = !(decide (0 < c) || decide (c * c * (4 - t * t) < 4 * Fm t a b)) := by
      rw [hr, Bool.eq_iff_iff, decide_eq_true_iff, Bool.not_eq_true', Bool.or_eq_false_iff, decide_eq_false_iff_not, decide_eq_false_iff_not]
      have e : -c * -c = c * c := by grind
      rw [e]
      constructor
      · rintro ⟨h1, h2⟩
        exact ⟨by grind, Rat.not_lt.mpr h2⟩
      · rintro ⟨h1, h2⟩
        exact ⟨by grind, Rat.not_lt.mp h2⟩
    obtain ⟨BY, hBY⟩ : ∃ BY, (decide (0 < c) || decide (c * c * (4 - t * t) < 4 * Fm t a b)) = BY := ⟨_, rfl⟩
    rw [hBY] at eb
    have imp : HI = true → BY = true := fun x => by
      have := dh x
      rw [← decide_eq_false_iff_not, ← hr, eb] at this
      simpa using this
    refine seq_to (X T F A H R L (q p) B83 (q a) (q b) z12 (q c) (q (Fm t a b)) (q (4 * Fm t a b)) (q (c * c * (4 - t * t))) (some (.d (.bl BY))) none St) (fun K hK => ⟨trivial, ?_⟩) ?_
    · show if decide ((0 : Int) < c.num) = true then _ else _
      rw [show decide ((0 : Int) < c.num) = decide (0 < c) from decide_eq_decide.mpr (num_pos_iff c)]
      cases hc0 : decide (0 < c) with
      | true =>
        rw [if_pos rfl]
        rw [hc0, Bool.true_or] at hBY
        rw [← hBY] at hK
        exact hK
      | false =>
        rw [if_neg (by decide)]
        rw [hc0, Bool.false_or] at hBY
        refine B.lless_ok (zm (by omega)) ?_
        rw [hBY]
        exact hK
    subst eb
    refine same_ok (d := .bl (!BY)) (fr_bl _) ?_
    show if true = true then _ else _
    rw [if_pos rfl]
    show if (!HI) = true then _ else _
    cases HI with
    | false => rfl
    | true =>
      rw [if_neg (by decide)]
      rw [imp rfl]
      rfl
  · refine guard_st Y (fun K hK => cond K (by rw [decide_eq_false td]; exact hK)) ?_
    have := told_eq S ht td hr
    subst this
    exact same_ok (fr_bl _) rfl
end C
theorem law_k52 : RT.LawD 63 sp_law_38 := C.law_k52
end PG

set_option maxRecDepth 100000
set_option maxHeartbeats 4000000
namespace K52
open PySem PySem.Spec PyProof.Rows L2 RT

def top (i : Nat) : Stmt := PySem.Challenge.pw_raytrain_k52_bounds_for_ever.main.body.getD i (.Pass ⟨0, 0, 0, 0⟩)
abbrev s_common_divisor : Stmt := top 2
abbrev s_fraction : Stmt := top 3
abbrev s_add : Stmt := top 4
abbrev s_negative : Stmt := top 5
abbrev s_subtract : Stmt := top 6
abbrev s_multiply : Stmt := top 7
abbrev s_divide : Stmt := top 8
abbrev s_sign : Stmt := top 9
abbrev s_compare : Stmt := top 10
abbrev s_is_less : Stmt := top 11
abbrev s_is_at_most : Stmt := top 12
abbrev s_polynomial_holds : Stmt := top 16
abbrev s_form_of : Stmt := top 17
abbrev s_cycle_holds : Stmt := top 18
abbrev s_ellipse_holds : Stmt := top 19
abbrev s_turning_holds : Stmt := top 20
abbrev s_line_holds : Stmt := top 21
abbrev s_growing_holds : Stmt := top 22
abbrev s_stays_below : Stmt := top 23
abbrev s__law_cell : Stmt := top 25
abbrev s__law_row : Stmt := top 26
abbrev s__law_box : Stmt := top 27
abbrev s__law_draw : Stmt := top 28
abbrev s__law_same : Stmt := top 29
abbrev s__law_frac : Stmt := top 30
abbrev s__law_add : Stmt := top 31
abbrev s__law_neg : Stmt := top 32
abbrev s__law_sub : Stmt := top 33
abbrev s__law_mul : Stmt := top 34
abbrev s__law_div : Stmt := top 35
abbrev s__law_less : Stmt := top 36
abbrev s__law_fraction : Stmt := top 37
abbrev s__law_start : Stmt := top 38
abbrev s_law : Stmt := top 39
def dd_common_divisor : He.DefD := ⟨("common_divisor", none), "common_divisor", "common_divisor", defArgs s_common_divisor, defBody s_common_divisor, defScope s_common_divisor, [], []⟩
def dd_fraction : He.DefD := ⟨("fraction", none), "fraction", "fraction", defArgs s_fraction, defBody s_fraction, defScope s_fraction, [.int 1], []⟩
def dd_add : He.DefD := ⟨("add", none), "add", "add", defArgs s_add, defBody s_add, defScope s_add, [], []⟩
def dd_negative : He.DefD := ⟨("negative", none), "negative", "negative", defArgs s_negative, defBody s_negative, defScope s_negative, [], []⟩
def dd_subtract : He.DefD := ⟨("subtract", none), "subtract", "subtract", defArgs s_subtract, defBody s_subtract, defScope s_subtract, [], []⟩
def dd_multiply : He.DefD := ⟨("multiply", none), "multiply", "multiply", defArgs s_multiply, defBody s_multiply, defScope s_multiply, [], []⟩
def dd_divide : He.DefD := ⟨("divide", none), "divide", "divide", defArgs s_divide, defBody s_divide, defScope s_divide, [], []⟩
def dd_sign : He.DefD := ⟨("sign", none), "sign", "sign", defArgs s_sign, defBody s_sign, defScope s_sign, [], []⟩
def dd_compare : He.DefD := ⟨("compare", none), "compare", "compare", defArgs s_compare, defBody s_compare, defScope s_compare, [], []⟩
def dd_is_less : He.DefD := ⟨("is_less", none), "is_less", "is_less", defArgs s_is_less, defBody s_is_less, defScope s_is_less, [], []⟩
def dd_is_at_most : He.DefD := ⟨("is_at_most", none), "is_at_most", "is_at_most", defArgs s_is_at_most, defBody s_is_at_most, defScope s_is_at_most, [], []⟩
def dd_polynomial_holds : He.DefD := ⟨("polynomial_holds", none), "polynomial_holds", "polynomial_holds", defArgs s_polynomial_holds, defBody s_polynomial_holds, defScope s_polynomial_holds, [], []⟩
def dd_form_of : He.DefD := ⟨("form_of", none), "form_of", "form_of", defArgs s_form_of, defBody s_form_of, defScope s_form_of, [], []⟩
def dd_cycle_holds : He.DefD := ⟨("cycle_holds", none), "cycle_holds", "cycle_holds", defArgs s_cycle_holds, defBody s_cycle_holds, defScope s_cycle_holds, [], []⟩
def dd_ellipse_holds : He.DefD := ⟨("ellipse_holds", none), "ellipse_holds", "ellipse_holds", defArgs s_ellipse_holds, defBody s_ellipse_holds, defScope s_ellipse_holds, [], []⟩
def dd_turning_holds : He.DefD := ⟨("turning_holds", none), "turning_holds", "turning_holds", defArgs s_turning_holds, defBody s_turning_holds, defScope s_turning_holds, [], []⟩
def dd_line_holds : He.DefD := ⟨("line_holds", none), "line_holds", "line_holds", defArgs s_line_holds, defBody s_line_holds, defScope s_line_holds, [], []⟩
def dd_growing_holds : He.DefD := ⟨("growing_holds", none), "growing_holds", "growing_holds", defArgs s_growing_holds, defBody s_growing_holds, defScope s_growing_holds, [], []⟩
def dd_stays_below : He.DefD := ⟨("stays_below", none), "stays_below", "stays_below", defArgs s_stays_below, defBody s_stays_below, defScope s_stays_below, [], []⟩
def dd__law_cell : He.DefD := ⟨("_law_cell", none), "_law_cell", "_law_cell", defArgs s__law_cell, defBody s__law_cell, defScope s__law_cell, [], []⟩
def dd__law_row : He.DefD := ⟨("_law_row", none), "_law_row", "_law_row", defArgs s__law_row, defBody s__law_row, defScope s__law_row, [], []⟩
def dd__law_box : He.DefD := ⟨("_law_box", none), "_law_box", "_law_box", defArgs s__law_box, defBody s__law_box, defScope s__law_box, [], []⟩
def dd__law_draw : He.DefD := ⟨("_law_draw", none), "_law_draw", "_law_draw", defArgs s__law_draw, defBody s__law_draw, defScope s__law_draw, [], []⟩
def dd__law_same : He.DefD := ⟨("_law_same", none), "_law_same", "_law_same", defArgs s__law_same, defBody s__law_same, defScope s__law_same, [], []⟩
def dd__law_frac : He.DefD := ⟨("_law_frac", none), "_law_frac", "_law_frac", defArgs s__law_frac, defBody s__law_frac, defScope s__law_frac, [], []⟩
def dd__law_add : He.DefD := ⟨("_law_add", none), "_law_add", "_law_add", defArgs s__law_add, defBody s__law_add, defScope s__law_add, [], []⟩
def dd__law_neg : He.DefD := ⟨("_law_neg", none), "_law_neg", "_law_neg", defArgs s__law_neg, defBody s__law_neg, defScope s__law_neg, [], []⟩
def dd__law_sub : He.DefD := ⟨("_law_sub", none), "_law_sub", "_law_sub", defArgs s__law_sub, defBody s__law_sub, defScope s__law_sub, [], []⟩
def dd__law_mul : He.DefD := ⟨("_law_mul", none), "_law_mul", "_law_mul", defArgs s__law_mul, defBody s__law_mul, defScope s__law_mul, [], []⟩
def dd__law_div : He.DefD := ⟨("_law_div", none), "_law_div", "_law_div", defArgs s__law_div, defBody s__law_div, defScope s__law_div, [], []⟩
def dd__law_less : He.DefD := ⟨("_law_less", none), "_law_less", "_law_less", defArgs s__law_less, defBody s__law_less, defScope s__law_less, [], []⟩
def dd__law_fraction : He.DefD := ⟨("_law_fraction", none), "_law_fraction", "_law_fraction", defArgs s__law_fraction, defBody s__law_fraction, defScope s__law_fraction, [], []⟩
def dd__law_start : He.DefD := ⟨("_law_start", none), "_law_start", "_law_start", defArgs s__law_start, defBody s__law_start, defScope s__law_start, [], []⟩
def dd_law : He.DefD := ⟨("law", none), "law", "law", defArgs s_law, defBody s_law, defScope s_law, [], []⟩
def fn : List He.DefD := [dd_common_divisor, dd_fraction, dd_add, dd_negative, dd_subtract, dd_multiply, dd_divide, dd_sign, dd_compare, dd_is_less, dd_is_at_most, dd_polynomial_holds, dd_form_of, dd_cycle_holds, dd_ellipse_holds, dd_turning_holds, dd_line_holds, dd_growing_holds, dd_stays_below, dd__law_cell, dd__law_row, dd__law_box, dd__law_draw, dd__law_same, dd__law_frac, dd__law_add, dd__law_neg, dd__law_sub, dd__law_mul, dd__law_div, dd__law_less, dd__law_fraction, dd__law_start, dd_law]
def fa : List He.Fa := [.glo "common_divisor", .glo "fraction", .glo "add", .glo "negative", .glo "subtract", .glo "multiply", .glo "divide", .glo "sign", .glo "compare", .glo "is_less", .glo "is_at_most", .glo "polynomial_holds", .glo "form_of", .glo "cycle_holds", .glo "ellipse_holds", .glo "turning_holds", .glo "line_holds", .glo "growing_holds", .glo "stays_below", .glo "_law_cell", .glo "_law_row", .glo "_law_box", .glo "_law_draw", .glo "_law_same", .glo "_law_frac", .glo "_law_add", .glo "_law_neg", .glo "_law_sub", .glo "_law_mul", .glo "_law_div", .glo "_law_less", .glo "_law_fraction", .glo "_law_start", .glo "law", .free "abs", .free "range", .free "len", .free "int", .free "repr"]
def xb (K : PySem.W.Frag) : Bool := cstB K "ZERO" PG.v_ZERO && (cstB K "TWO" PG.v_TWO && (dctB K "CYCLES" PG.k_CYCLES))
section
variable {P : Program} {w : World} {K : PySem.W.Frag} {mg : Str → Option Value} {base : Heap}
theorem cst_ZERO (KX : K.In base) (GX : base.Ns mainGlobals mg) (c : He.SaysD fa fn K) (hxb : xb K = true) : CstG K mg "ZERO" PG.v_ZERO := cst_of KX GX ((band hxb).1)
theorem cst_TWO (KX : K.In base) (GX : base.Ns mainGlobals mg) (c : He.SaysD fa fn K) (hxb : xb K = true) : CstG K mg "TWO" PG.v_TWO := cst_of KX GX ((band (band hxb).2).1)
theorem dct_CYCLES (KX : K.In base) (GX : base.Ns mainGlobals mg) (hxb : xb K = true) : DctG K mg "CYCLES" PG.k_CYCLES := dctG_of KX GX ((band (band hxb).2).2)
theorem sc_common_divisor : FnScope (["first", "second", "one", "other"] : List Str) (["first", "second"] : List Str) (defScope s_common_divisor) := ⟨rfl, rfl, rfl, by decide +kernel, rfl, by decide +kernel, by decide +kernel⟩
theorem d_common_divisor {X : Cx} (am : Amb 0 X) (hN : X.N.Nodup) (hc : X.calm = true) (hxe : PassesOwn (model X.prog X.w) X.A X.env X.xe) (eN : X.N = (["first", "second", "one", "other"] : List Str)) (eS : X.env.scope = defScope s_common_divisor) (hfn : ∀ x, X.fn x = true) (fr_abs : X.mg "abs" = none) : JSs X (defBody s_common_divisor) PG.w_common_divisor := by
  have hr := am.rm
  have n0 : X.N[0]? = some ("first" : Str) := by rw [eN]; rfl
  have v0 : SlotOk X 0 "first" := slot_of eS eN hfn rfl (.inl rfl)
  have n1 : X.N[1]? = some ("second" : Str) := by rw [eN]; rfl
  have v1 : SlotOk X 1 "second" := slot_of eS eN hfn rfl (.inl rfl)
  have n2 : X.N[2]? = some ("one" : Str) := by rw [eN]; rfl
  have v2 : SlotOk X 2 "one" := slot_of eS eN hfn rfl (.inl rfl)
  have n3 : X.N[3]? = some ("other" : Str) := by rw [eN]; rfl
  have v3 : SlotOk X 3 "other" := slot_of eS eN hfn rfl (.inl rfl)
  have gl_abs : Gl X "abs" := gl_of eS rfl
  exact (js_cons (js_st hN v2 (je_bi b_abs gl_abs fr_abs RT.boot_abs (ja_cons (je_v v0) ja_nil)))
  (js_cons (js_st hN v3 (je_bi b_abs gl_abs fr_abs RT.boot_abs (ja_cons (je_v v1) ja_nil)))
  (js_cons (js_while hxe (jt_cmp o_gt (je_v v3) je_int (nomark _))
  (js_one (js_par (i := 2) (j := 3) hc hN n2 n3 (by decide) (by rw [eS]; rfl) (by rw [eS]; rfl) (ja_cons (je_v v3) (ja_cons (je_op o_mod (je_v v2) (je_v v3)) ja_nil)) (swap_ok (by rw [eS]; rfl) (by rw [eS]; rfl) (by rw [eS]; rfl) (by decide) rfl rfl rfl (by decide +kernel) (by decide +kernel)))))
  (js_one (js_ret (je_v v2))))))
theorem g_common_divisor (KX : K.In base) (GX : base.Ns mainGlobals mg) (c : He.SaysD fa fn K) (hxb : xb K = true) (hns : BaseOk K mg base) (htr : P.given.tree = none) : FnG P w K mg base "common_divisor" 1 PG.sp_common_divisor [] := by
  obtain ⟨fd, F⟩ := c.def_ 0 (d := dd_common_divisor) rfl
  unfold PG.sp_common_divisor
  exact mkG (N := (["first", "second", "one", "other"] : List Str)) false hns htr F (He.glo_ok KX GX (c.fact 0 (f := .glo "common_divisor") rfl)) sc_common_divisor rfl rfl (fun _ _ _ _ _ _ us hl => match us, hl with | [_, _], _ => rfl) (fun X cdv A outer s H E hX hcd am => by subst hX; exact d_common_divisor am sc_common_divisor.nd rfl PassesOwn.never rfl rfl (fun _ => rfl) (He.free_ok KX GX (c.fact 34 (f := .free "abs") rfl)))

theorem sc_fraction : FnScope (["numerator", "denominator", "divisor"] : List Str) (["numerator", "denominator"] : List Str) (defScope s_fraction) := ⟨rfl, rfl, rfl, by decide +kernel, rfl, by decide +kernel, by decide +kernel⟩
theorem d_fraction {X : Cx} (am : Amb 1 X) (hN : X.N.Nodup) (hc : X.calm = true) (hxe : PassesOwn (model X.prog X.w) X.A X.env X.xe) (eN : X.N = (["numerator", "denominator", "divisor"] : List Str)) (eS : X.env.scope = defScope s_fraction) (hfn : ∀ x, X.fn x = true) (G_common_divisor : FnG X.prog X.w X.K X.mg X.base "common_divisor" 1 PG.sp_common_divisor []) : JSs X (defBody s_fraction) PG.w_fraction := by
  have hr := am.rm
  have n0 : X.N[0]? = some ("numerator" : Str) := by rw [eN]; rfl
  have v0 : SlotOk X 0 "numerator" := slot_of eS eN hfn rfl (.inl rfl)
  have n1 : X.N[1]? = some ("denominator" : Str) := by rw [eN]; rfl
  have v1 : SlotOk X 1 "denominator" := slot_of eS eN hfn rfl (.inl rfl)
  have n2 : X.N[2]? = some ("divisor" : Str) := by rw [eN]; rfl
  have v2 : SlotOk X 2 "divisor" := slot_of eS eN hfn rfl (.inl rfl)
  have gl_common_divisor : Gl X "common_divisor" := gl_of eS rfl
  exact (js_cons (js_st hN v2 (je_cg G_common_divisor hr gl_common_divisor (ja_cons (je_v v0) (ja_cons (je_v v1) ja_nil))))
  (js_cons (js_if (jt_cmp o_lt (je_v v1) je_int (nomark _))
  (js_one (js_st hN v2 (je_neg (je_v v2))))
  js_nil)
  (js_one (js_ret (je_tup (ja_cons (je_op (o_fdiv am.py) (je_v v0) (je_v v2)) (ja_cons (je_op (o_fdiv am.py) (je_v v1) (je_v v2)) ja_nil)))))))
theorem g_fraction (KX : K.In base) (GX : base.Ns mainGlobals mg) (c : He.SaysD fa fn K) (hxb : xb K = true) (hns : BaseOk K mg base) (htr : P.given.tree = none) : FnG P w K mg base "fraction" 2 PG.sp_fraction [] ∧ FnG P w K mg base "fraction" 2 PG.sp_fraction [.d (.int 1)] := by
  obtain ⟨fd, F⟩ := c.def_ 1 (d := dd_fraction) rfl
  unfold PG.sp_fraction
  exact mkGd (N := (["numerator", "denominator", "divisor"] : List Str)) (i := 1) false hns htr F (He.glo_ok KX GX (c.fact 1 (f := .glo "fraction") rfl)) sc_fraction rfl rfl (fun T kV doc pm an cdv ct us its hu hi => match us, hu, its, hi with | [_, _], _, [_], _ => ⟨_, rfl, rfl⟩) (fun T kV doc pm an cdv ct us its hu hi => match us, hu, its, hi with | [_], _, [_], _ => ⟨_, rfl, rfl⟩) (fun X cdv A outer s H E hX hcd am => by subst hX; exact d_fraction am sc_fraction.nd rfl PassesOwn.never rfl rfl (fun _ => rfl) (g_common_divisor (P := P) (w := w) KX GX c hxb hns htr))

theorem sc_add : FnScope (["first", "second"] : List Str) (["first", "second"] : List Str) (defScope s_add) := ⟨rfl, rfl, rfl, by decide +kernel, rfl, by decide +kernel, by decide +kernel⟩
theorem d_add {X : Cx} (am : Amb 2 X) (hN : X.N.Nodup) (hc : X.calm = true) (hxe : PassesOwn (model X.prog X.w) X.A X.env X.xe) (eN : X.N = (["first", "second"] : List Str)) (eS : X.env.scope = defScope s_add) (hfn : ∀ x, X.fn x = true) (G_fraction : FnG X.prog X.w X.K X.mg X.base "fraction" 2 PG.sp_fraction []) : JSs X (defBody s_add) PG.w_add := by
  have hr := am.rm
  have n0 : X.N[0]? = some ("first" : Str) := by rw [eN]; rfl
  have v0 : SlotOk X 0 "first" := slot_of eS eN hfn rfl (.inl rfl)
  have n1 : X.N[1]? = some ("second" : Str) := by rw [eN]; rfl
  have v1 : SlotOk X 1 "second" := slot_of eS eN hfn rfl (.inl rfl)
  have gl_fraction : Gl X "fraction" := gl_of eS rfl
  exact (js_one (js_ret (je_cg G_fraction hr gl_fraction (ja_cons (je_op o_addA (je_op o_mul (je_ix (je_v v0) je_int) (je_ix (je_v v1) je_int)) (je_op o_mul (je_ix (je_v v1) je_int) (je_ix (je_v v0) je_int))) (ja_cons (je_op o_mul (je_ix (je_v v0) je_int) (je_ix (je_v v1) je_int)) ja_nil)))))
theorem g_add (KX : K.In base) (GX : base.Ns mainGlobals mg) (c : He.SaysD fa fn K) (hxb : xb K = true) (hns : BaseOk K mg base) (htr : P.given.tree = none) : FnG P w K mg base "add" 3 PG.sp_add [] := by
  obtain ⟨fd, F⟩ := c.def_ 2 (d := dd_add) rfl
  unfold PG.sp_add
  exact mkG (N := (["first", "second"] : List Str)) false hns htr F (He.glo_ok KX GX (c.fact 2 (f := .glo "add") rfl)) sc_add rfl rfl (fun _ _ _ _ _ _ us hl => match us, hl with | [_, _], _ => rfl) (fun X cdv A outer s H E hX hcd am => by subst hX; exact d_add am sc_add.nd rfl PassesOwn.never rfl rfl (fun _ => rfl) (g_fraction (P := P) (w := w) KX GX c hxb hns htr).1)

theorem sc_negative : FnScope (["value"] : List Str) (["value"] : List Str) (defScope s_negative) := ⟨rfl, rfl, rfl, by decide +kernel, rfl, by decide +kernel, by decide +kernel⟩
theorem d_negative {X : Cx} (am : Amb 0 X) (hN : X.N.Nodup) (hc : X.calm = true) (hxe : PassesOwn (model X.prog X.w) X.A X.env X.xe) (eN : X.N = (["value"] : List Str)) (eS : X.env.scope = defScope s_negative) (hfn : ∀ x, X.fn x = true) : JSs X (defBody s_negative) PG.w_negative := by
  have hr := am.rm
  have n0 : X.N[0]? = some ("value" : Str) := by rw [eN]; rfl
  have v0 : SlotOk X 0 "value" := slot_of eS eN hfn rfl (.inl rfl)
  exact (js_one (js_ret (je_tup (ja_cons (je_neg (je_ix (je_v v0) je_int)) (ja_cons (je_ix (je_v v0) je_int) ja_nil)))))
theorem g_negative (KX : K.In base) (GX : base.Ns mainGlobals mg) (c : He.SaysD fa fn K) (hxb : xb K = true) (hns : BaseOk K mg base) (htr : P.given.tree = none) : FnG P w K mg base "negative" 1 PG.sp_negative [] := by
  obtain ⟨fd, F⟩ := c.def_ 3 (d := dd_negative) rfl
  unfold PG.sp_negative
  exact mkG (N := (["value"] : List Str)) false hns htr F (He.glo_ok KX GX (c.fact 3 (f := .glo "negative") rfl)) sc_negative rfl rfl (fun _ _ _ _ _ _ us hl => match us, hl with | [_], _ => rfl) (fun X cdv A outer s H E hX hcd am => by subst hX; exact d_negative am sc_negative.nd rfl PassesOwn.never rfl rfl (fun _ => rfl))

theorem sc_subtract : FnScope (["first", "second"] : List Str) (["first", "second"] : List Str) (defScope s_subtract) := ⟨rfl, rfl, rfl, by decide +kernel, rfl, by decide +kernel, by decide +kernel⟩
theorem d_subtract {X : Cx} (am : Amb 3 X) (hN : X.N.Nodup) (hc : X.calm = true) (hxe : PassesOwn (model X.prog X.w) X.A X.env X.xe) (eN : X.N = (["first", "second"] : List Str)) (eS : X.env.scope = defScope s_subtract) (hfn : ∀ x, X.fn x = true) (G_negative : FnG X.prog X.w X.K X.mg X.base "negative" 1 PG.sp_negative []) (G_add : FnG X.prog X.w X.K X.mg X.base "add" 3 PG.sp_add []) : JSs X (defBody s_subtract) PG.w_subtract := by
  have hr := am.rm
  have n0 : X.N[0]? = some ("first" : Str) := by rw [eN]; rfl
  have v0 : SlotOk X 0 "first" := slot_of eS eN hfn rfl (.inl rfl)
  have n1 : X.N[1]? = some ("second" : Str) := by rw [eN]; rfl
  have v1 : SlotOk X 1 "second" := slot_of eS eN hfn rfl (.inl rfl)
  have gl_negative : Gl X "negative" := gl_of eS rfl
  have gl_add : Gl X "add" := gl_of eS rfl
  exact (js_one (js_ret (je_cg G_add hr gl_add (ja_cons (je_v v0) (ja_cons (je_cg G_negative hr gl_negative (ja_cons (je_v v1) ja_nil)) ja_nil)))))
theorem g_subtract (KX : K.In base) (GX : base.Ns mainGlobals mg) (c : He.SaysD fa fn K) (hxb : xb K = true) (hns : BaseOk K mg base) (htr : P.given.tree = none) : FnG P w K mg base "subtract" 4 PG.sp_subtract [] := by
  obtain ⟨fd, F⟩ := c.def_ 4 (d := dd_subtract) rfl
  unfold PG.sp_subtract
  exact mkG (N := (["first", "second"] : List Str)) false hns htr F (He.glo_ok KX GX (c.fact 4 (f := .glo "subtract") rfl)) sc_subtract rfl rfl (fun _ _ _ _ _ _ us hl => match us, hl with | [_, _], _ => rfl) (fun X cdv A outer s H E hX hcd am => by subst hX; exact d_subtract am sc_subtract.nd rfl PassesOwn.never rfl rfl (fun _ => rfl) (g_negative (P := P) (w := w) KX GX c hxb hns htr) (g_add (P := P) (w := w) KX GX c hxb hns htr))

theorem sc_multiply : FnScope (["first", "second"] : List Str) (["first", "second"] : List Str) (defScope s_multiply) := ⟨rfl, rfl, rfl, by decide +kernel, rfl, by decide +kernel, by decide +kernel⟩
theorem d_multiply {X : Cx} (am : Amb 2 X) (hN : X.N.Nodup) (hc : X.calm = true) (hxe : PassesOwn (model X.prog X.w) X.A X.env X.xe) (eN : X.N = (["first", "second"] : List Str)) (eS : X.env.scope = defScope s_multiply) (hfn : ∀ x, X.fn x = true) (G_fraction : FnG X.prog X.w X.K X.mg X.base "fraction" 2 PG.sp_fraction []) : JSs X (defBody s_multiply) PG.w_multiply := by
  have hr := am.rm
  have n0 : X.N[0]? = some ("first" : Str) := by rw [eN]; rfl
  have v0 : SlotOk X 0 "first" := slot_of eS eN hfn rfl (.inl rfl)
  have n1 : X.N[1]? = some ("second" : Str) := by rw [eN]; rfl
  have v1 : SlotOk X 1 "second" := slot_of eS eN hfn rfl (.inl rfl)
  have gl_fraction : Gl X "fraction" := gl_of eS rfl
  exact (js_one (js_ret (je_cg G_fraction hr gl_fraction (ja_cons (je_op o_mul (je_ix (je_v v0) je_int) (je_ix (je_v v1) je_int)) (ja_cons (je_op o_mul (je_ix (je_v v0) je_int) (je_ix (je_v v1) je_int)) ja_nil)))))
theorem g_multiply (KX : K.In base) (GX : base.Ns mainGlobals mg) (c : He.SaysD fa fn K) (hxb : xb K = true) (hns : BaseOk K mg base) (htr : P.given.tree = none) : FnG P w K mg base "multiply" 3 PG.sp_multiply [] := by
  obtain ⟨fd, F⟩ := c.def_ 5 (d := dd_multiply) rfl
  unfold PG.sp_multiply
  exact mkG (N := (["first", "second"] : List Str)) false hns htr F (He.glo_ok KX GX (c.fact 5 (f := .glo "multiply") rfl)) sc_multiply rfl rfl (fun _ _ _ _ _ _ us hl => match us, hl with | [_, _], _ => rfl) (fun X cdv A outer s H E hX hcd am => by subst hX; exact d_multiply am sc_multiply.nd rfl PassesOwn.never rfl rfl (fun _ => rfl) (g_fraction (P := P) (w := w) KX GX c hxb hns htr).1)

theorem sc_divide : FnScope (["first", "second"] : List Str) (["first", "second"] : List Str) (defScope s_divide) := ⟨rfl, rfl, rfl, by decide +kernel, rfl, by decide +kernel, by decide +kernel⟩
theorem d_divide {X : Cx} (am : Amb 2 X) (hN : X.N.Nodup) (hc : X.calm = true) (hxe : PassesOwn (model X.prog X.w) X.A X.env X.xe) (eN : X.N = (["first", "second"] : List Str)) (eS : X.env.scope = defScope s_divide) (hfn : ∀ x, X.fn x = true) (G_fraction : FnG X.prog X.w X.K X.mg X.base "fraction" 2 PG.sp_fraction []) : JSs X (defBody s_divide) PG.w_divide := by
  have hr := am.rm
  have n0 : X.N[0]? = some ("first" : Str) := by rw [eN]; rfl
  have v0 : SlotOk X 0 "first" := slot_of eS eN hfn rfl (.inl rfl)
  have n1 : X.N[1]? = some ("second" : Str) := by rw [eN]; rfl
  have v1 : SlotOk X 1 "second" := slot_of eS eN hfn rfl (.inl rfl)
  have gl_fraction : Gl X "fraction" := gl_of eS rfl
  exact (js_one (js_ret (je_cg G_fraction hr gl_fraction (ja_cons (je_op o_mul (je_ix (je_v v0) je_int) (je_ix (je_v v1) je_int)) (ja_cons (je_op o_mul (je_ix (je_v v0) je_int) (je_ix (je_v v1) je_int)) ja_nil)))))
theorem g_divide (KX : K.In base) (GX : base.Ns mainGlobals mg) (c : He.SaysD fa fn K) (hxb : xb K = true) (hns : BaseOk K mg base) (htr : P.given.tree = none) : FnG P w K mg base "divide" 3 PG.sp_divide [] := by
  obtain ⟨fd, F⟩ := c.def_ 6 (d := dd_divide) rfl
  unfold PG.sp_divide
  exact mkG (N := (["first", "second"] : List Str)) false hns htr F (He.glo_ok KX GX (c.fact 6 (f := .glo "divide") rfl)) sc_divide rfl rfl (fun _ _ _ _ _ _ us hl => match us, hl with | [_, _], _ => rfl) (fun X cdv A outer s H E hX hcd am => by subst hX; exact d_divide am sc_divide.nd rfl PassesOwn.never rfl rfl (fun _ => rfl) (g_fraction (P := P) (w := w) KX GX c hxb hns htr).1)

theorem sc_sign : FnScope (["value"] : List Str) (["value"] : List Str) (defScope s_sign) := ⟨rfl, rfl, rfl, by decide +kernel, rfl, by decide +kernel, by decide +kernel⟩
theorem d_sign {X : Cx} (am : Amb 0 X) (hN : X.N.Nodup) (hc : X.calm = true) (hxe : PassesOwn (model X.prog X.w) X.A X.env X.xe) (eN : X.N = (["value"] : List Str)) (eS : X.env.scope = defScope s_sign) (hfn : ∀ x, X.fn x = true) : JSs X (defBody s_sign) PG.w_sign := by
  have hr := am.rm
  have n0 : X.N[0]? = some ("value" : Str) := by rw [eN]; rfl
  have v0 : SlotOk X 0 "value" := slot_of eS eN hfn rfl (.inl rfl)
  exact (js_cons (js_if (jt_cmp o_gt (je_ix (je_v v0) je_int) je_int (nomark _))
  (js_one (js_ret je_int))
  js_nil)
  (js_cons (js_if (jt_cmp o_lt (je_ix (je_v v0) je_int) je_int (nomark _))
  (js_one (js_ret (je_neg je_int)))
  js_nil)
  (js_one (js_ret je_int))))
theorem g_sign (KX : K.In base) (GX : base.Ns mainGlobals mg) (c : He.SaysD fa fn K) (hxb : xb K = true) (hns : BaseOk K mg base) (htr : P.given.tree = none) : FnG P w K mg base "sign" 1 PG.sp_sign [] := by
  obtain ⟨fd, F⟩ := c.def_ 7 (d := dd_sign) rfl
  unfold PG.sp_sign
  exact mkG (N := (["value"] : List Str)) false hns htr F (He.glo_ok KX GX (c.fact 7 (f := .glo "sign") rfl)) sc_sign rfl rfl (fun _ _ _ _ _ _ us hl => match us, hl with | [_], _ => rfl) (fun X cdv A outer s H E hX hcd am => by subst hX; exact d_sign am sc_sign.nd rfl PassesOwn.never rfl rfl (fun _ => rfl))

theorem sc_compare : FnScope (["first", "second"] : List Str) (["first", "second"] : List Str) (defScope s_compare) := ⟨rfl, rfl, rfl, by decide +kernel, rfl, by decide +kernel, by decide +kernel⟩
theorem d_compare {X : Cx} (am : Amb 4 X) (hN : X.N.Nodup) (hc : X.calm = true) (hxe : PassesOwn (model X.prog X.w) X.A X.env X.xe) (eN : X.N = (["first", "second"] : List Str)) (eS : X.env.scope = defScope s_compare) (hfn : ∀ x, X.fn x = true) (G_subtract : FnG X.prog X.w X.K X.mg X.base "subtract" 4 PG.sp_subtract []) (G_sign : FnG X.prog X.w X.K X.mg X.base "sign" 1 PG.sp_sign []) : JSs X (defBody s_compare) PG.w_compare := by
  have hr := am.rm
  have n0 : X.N[0]? = some ("first" : Str) := by rw [eN]; rfl
  have v0 : SlotOk X 0 "first" := slot_of eS eN hfn rfl (.inl rfl)
  have n1 : X.N[1]? = some ("second" : Str) := by rw [eN]; rfl
  have v1 : SlotOk X 1 "second" := slot_of eS eN hfn rfl (.inl rfl)
  have gl_subtract : Gl X "subtract" := gl_of eS rfl
  have gl_sign : Gl X "sign" := gl_of eS rfl
  exact (js_one (js_ret (je_cg G_sign hr gl_sign (ja_cons (je_cg G_subtract hr gl_subtract (ja_cons (je_v v0) (ja_cons (je_v v1) ja_nil))) ja_nil))))
theorem g_compare (KX : K.In base) (GX : base.Ns mainGlobals mg) (c : He.SaysD fa fn K) (hxb : xb K = true) (hns : BaseOk K mg base) (htr : P.given.tree = none) : FnG P w K mg base "compare" 5 PG.sp_compare [] := by
  obtain ⟨fd, F⟩ := c.def_ 8 (d := dd_compare) rfl
  unfold PG.sp_compare
  exact mkG (N := (["first", "second"] : List Str)) false hns htr F (He.glo_ok KX GX (c.fact 8 (f := .glo "compare") rfl)) sc_compare rfl rfl (fun _ _ _ _ _ _ us hl => match us, hl with | [_, _], _ => rfl) (fun X cdv A outer s H E hX hcd am => by subst hX; exact d_compare am sc_compare.nd rfl PassesOwn.never rfl rfl (fun _ => rfl) (g_subtract (P := P) (w := w) KX GX c hxb hns htr) (g_sign (P := P) (w := w) KX GX c hxb hns htr))

theorem sc_is_less : FnScope (["first", "second"] : List Str) (["first", "second"] : List Str) (defScope s_is_less) := ⟨rfl, rfl, rfl, by decide +kernel, rfl, by decide +kernel, by decide +kernel⟩
theorem d_is_less {X : Cx} (am : Amb 5 X) (hN : X.N.Nodup) (hc : X.calm = true) (hxe : PassesOwn (model X.prog X.w) X.A X.env X.xe) (eN : X.N = (["first", "second"] : List Str)) (eS : X.env.scope = defScope s_is_less) (hfn : ∀ x, X.fn x = true) (G_compare : FnG X.prog X.w X.K X.mg X.base "compare" 5 PG.sp_compare []) : JSs X (defBody s_is_less) PG.w_is_less := by
  have hr := am.rm
  have n0 : X.N[0]? = some ("first" : Str) := by rw [eN]; rfl
  have v0 : SlotOk X 0 "first" := slot_of eS eN hfn rfl (.inl rfl)
  have n1 : X.N[1]? = some ("second" : Str) := by rw [eN]; rfl
  have v1 : SlotOk X 1 "second" := slot_of eS eN hfn rfl (.inl rfl)
  have gl_compare : Gl X "compare" := gl_of eS rfl
  exact (js_one (js_ret (je_cmp o_lt (je_cg G_compare hr gl_compare (ja_cons (je_v v0) (ja_cons (je_v v1) ja_nil))) je_int (nomark _))))
theorem g_is_less (KX : K.In base) (GX : base.Ns mainGlobals mg) (c : He.SaysD fa fn K) (hxb : xb K = true) (hns : BaseOk K mg base) (htr : P.given.tree = none) : FnG P w K mg base "is_less" 6 PG.sp_is_less [] := by
  obtain ⟨fd, F⟩ := c.def_ 9 (d := dd_is_less) rfl
  unfold PG.sp_is_less
  exact mkG (N := (["first", "second"] : List Str)) false hns htr F (He.glo_ok KX GX (c.fact 9 (f := .glo "is_less") rfl)) sc_is_less rfl rfl (fun _ _ _ _ _ _ us hl => match us, hl with | [_, _], _ => rfl) (fun X cdv A outer s H E hX hcd am => by subst hX; exact d_is_less am sc_is_less.nd rfl PassesOwn.never rfl rfl (fun _ => rfl) (g_compare (P := P) (w := w) KX GX c hxb hns htr))

theorem sc_is_at_most : FnScope (["first", "second"] : List Str) (["first", "second"] : List Str) (defScope s_is_at_most) := ⟨rfl, rfl, rfl, by decide +kernel, rfl, by decide +kernel, by decide +kernel⟩
theorem d_is_at_most {X : Cx} (am : Amb 5 X) (hN : X.N.Nodup) (hc : X.calm = true) (hxe : PassesOwn (model X.prog X.w) X.A X.env X.xe) (eN : X.N = (["first", "second"] : List Str)) (eS : X.env.scope = defScope s_is_at_most) (hfn : ∀ x, X.fn x = true) (G_compare : FnG X.prog X.w X.K X.mg X.base "compare" 5 PG.sp_compare []) : JSs X (defBody s_is_at_most) PG.w_is_at_most := by
  have hr := am.rm
  have n0 : X.N[0]? = some ("first" : Str) := by rw [eN]; rfl
  have v0 : SlotOk X 0 "first" := slot_of eS eN hfn rfl (.inl rfl)
  have n1 : X.N[1]? = some ("second" : Str) := by rw [eN]; rfl
  have v1 : SlotOk X 1 "second" := slot_of eS eN hfn rfl (.inl rfl)
  have gl_compare : Gl X "compare" := gl_of eS rfl
  exact (js_one (js_ret (je_cmp o_le (je_cg G_compare hr gl_compare (ja_cons (je_v v0) (ja_cons (je_v v1) ja_nil))) je_int (nomark _))))
theorem g_is_at_most (KX : K.In base) (GX : base.Ns mainGlobals mg) (c : He.SaysD fa fn K) (hxb : xb K = true) (hns : BaseOk K mg base) (htr : P.given.tree = none) : FnG P w K mg base "is_at_most" 6 PG.sp_is_at_most [] := by
  obtain ⟨fd, F⟩ := c.def_ 10 (d := dd_is_at_most) rfl
  unfold PG.sp_is_at_most
  exact mkG (N := (["first", "second"] : List Str)) false hns htr F (He.glo_ok KX GX (c.fact 10 (f := .glo "is_at_most") rfl)) sc_is_at_most rfl rfl (fun _ _ _ _ _ _ us hl => match us, hl with | [_, _], _ => rfl) (fun X cdv A outer s H E hX hcd am => by subst hX; exact d_is_at_most am sc_is_at_most.nd rfl PassesOwn.never rfl rfl (fun _ => rfl) (g_compare (P := P) (w := w) KX GX c hxb hns htr))

theorem sc_polynomial_holds : FnScope (["first", "second", "third", "step", "bend", "turns", "many", "change", "curve"] : List Str) (["first", "second", "third"] : List Str) (defScope s_polynomial_holds) := ⟨rfl, rfl, rfl, by decide +kernel, rfl, by decide +kernel, by decide +kernel⟩
theorem d_polynomial_holds {X : Cx} (am : Amb 4 X) (hN : X.N.Nodup) (hc : X.calm = true) (hxe : PassesOwn (model X.prog X.w) X.A X.env X.xe) (eN : X.N = (["first", "second", "third", "step", "bend", "turns", "many", "change", "curve"] : List Str)) (eS : X.env.scope = defScope s_polynomial_holds) (hfn : ∀ x, X.fn x = true) (G_subtract : FnG X.prog X.w X.K X.mg X.base "subtract" 4 PG.sp_subtract []) (G_sign : FnG X.prog X.w X.K X.mg X.base "sign" 1 PG.sp_sign []) (G_negative : FnG X.prog X.w X.K X.mg X.base "negative" 1 PG.sp_negative []) (G_divide : FnG X.prog X.w X.K X.mg X.base "divide" 3 PG.sp_divide []) (G_multiply : FnG X.prog X.w X.K X.mg X.base "multiply" 3 PG.sp_multiply []) (G_add : FnG X.prog X.w X.K X.mg X.base "add" 3 PG.sp_add []) (G1_fraction : FnG X.prog X.w X.K X.mg X.base "fraction" 2 PG.sp_fraction [.d (.int 1)]) : JSs X (defBody s_polynomial_holds) PG.w_polynomial_holds := by
  have hr := am.rm
  have n0 : X.N[0]? = some ("first" : Str) := by rw [eN]; rfl
  have v0 : SlotOk X 0 "first" := slot_of eS eN hfn rfl (.inl rfl)
  have n1 : X.N[1]? = some ("second" : Str) := by rw [eN]; rfl
  have v1 : SlotOk X 1 "second" := slot_of eS eN hfn rfl (.inl rfl)
  have n2 : X.N[2]? = some ("third" : Str) := by rw [eN]; rfl
  have v2 : SlotOk X 2 "third" := slot_of eS eN hfn rfl (.inl rfl)
  have n3 : X.N[3]? = some ("step" : Str) := by rw [eN]; rfl
  have v3 : SlotOk X 3 "step" := slot_of eS eN hfn rfl (.inl rfl)
  have n4 : X.N[4]? = some ("bend" : Str) := by rw [eN]; rfl
  have v4 : SlotOk X 4 "bend" := slot_of eS eN hfn rfl (.inl rfl)
  have n5 : X.N[5]? = some ("turns" : Str) := by rw [eN]; rfl
  have v5 : SlotOk X 5 "turns" := slot_of eS eN hfn rfl (.inl rfl)
  have n6 : X.N[6]? = some ("many" : Str) := by rw [eN]; rfl
  have v6 : SlotOk X 6 "many" := slot_of eS eN hfn rfl (.inl rfl)
  have n7 : X.N[7]? = some ("change" : Str) := by rw [eN]; rfl
  have v7 : SlotOk X 7 "change" := slot_of eS eN hfn rfl (.inl rfl)
  have n8 : X.N[8]? = some ("curve" : Str) := by rw [eN]; rfl
  have v8 : SlotOk X 8 "curve" := slot_of eS eN hfn rfl (.inl rfl)
  have gl_subtract : Gl X "subtract" := gl_of eS rfl
  have gl_sign : Gl X "sign" := gl_of eS rfl
  have gl_negative : Gl X "negative" := gl_of eS rfl
  have gl_divide : Gl X "divide" := gl_of eS rfl
  have gl_fraction : Gl X "fraction" := gl_of eS rfl
  have gl_multiply : Gl X "multiply" := gl_of eS rfl
  have gl_add : Gl X "add" := gl_of eS rfl
  exact (js_cons (js_st hN v3 (je_cg G_subtract hr gl_subtract (ja_cons (je_v v1) (ja_cons (je_v v0) ja_nil))))
  (js_cons (js_st hN v4 (je_cg G_subtract hr gl_subtract (ja_cons (je_cg G_subtract hr gl_subtract (ja_cons (je_v v2) (ja_cons (je_v v1) ja_nil))) (ja_cons (je_v v3) ja_nil))))
  (js_cons (js_if (jw_pt (jw_or (jt_cmp o_gt (je_cg G_sign hr gl_sign (ja_cons (je_v v4) ja_nil)) je_int (nomark _)) (jw_or1 (jt_cmp o_gt (je_cg G_sign hr gl_sign (ja_cons (je_v v0) ja_nil)) je_int (nomark _)))))
  (js_one (js_ret je_bl))
  js_nil)
  (js_cons (js_if (jt_cmp (o_eq hr) (je_cg G_sign hr gl_sign (ja_cons (je_v v4) ja_nil)) je_int (nomark _))
  (js_one (js_ret (je_cmp o_le (je_cg G_sign hr gl_sign (ja_cons (je_v v3) ja_nil)) je_int (nomark _))))
  js_nil)
  (js_cons (js_if (jt_cmp o_le (je_cg G_sign hr gl_sign (ja_cons (je_v v3) ja_nil)) je_int (nomark _))
  (js_one (js_ret je_bl))
  js_nil)
  (js_cons (js_st hN v5 (je_cg G_divide hr gl_divide (ja_cons (je_v v3) (ja_cons (je_cg G_negative hr gl_negative (ja_cons (je_v v4) ja_nil)) ja_nil))))
  (js_cons (js_st hN v6 (je_neg (je_op (o_fdiv am.py) (je_neg (je_ix (je_v v5) je_int)) (je_ix (je_v v5) je_int))))
  (js_cons (js_st hN v7 (je_cg G_multiply hr gl_multiply (ja_cons (je_cg G1_fraction hr gl_fraction (ja_cons (je_v v6) ja_nil)) (ja_cons (je_v v3) ja_nil))))
  (js_cons (js_st hN v8 (je_cg G_multiply hr gl_multiply (ja_cons (je_cg G1_fraction hr gl_fraction (ja_cons (je_op (o_fdiv am.py) (je_op o_mul (je_v v6) (je_op o_sub (je_v v6) je_int)) je_int) ja_nil)) (ja_cons (je_v v4) ja_nil))))
  (js_one (js_ret (je_cmp o_le (je_cg G_sign hr gl_sign (ja_cons (je_cg G_add hr gl_add (ja_cons (je_cg G_add hr gl_add (ja_cons (je_v v0) (ja_cons (je_v v7) ja_nil))) (ja_cons (je_v v8) ja_nil))) ja_nil)) je_int (nomark _)))))))))))))
theorem g_polynomial_holds (KX : K.In base) (GX : base.Ns mainGlobals mg) (c : He.SaysD fa fn K) (hxb : xb K = true) (hns : BaseOk K mg base) (htr : P.given.tree = none) : FnG P w K mg base "polynomial_holds" 5 PG.sp_polynomial_holds [] := by
  obtain ⟨fd, F⟩ := c.def_ 11 (d := dd_polynomial_holds) rfl
  unfold PG.sp_polynomial_holds
  exact mkG (N := (["first", "second", "third", "step", "bend", "turns", "many", "change", "curve"] : List Str)) false hns htr F (He.glo_ok KX GX (c.fact 11 (f := .glo "polynomial_holds") rfl)) sc_polynomial_holds rfl rfl (fun _ _ _ _ _ _ us hl => match us, hl with | [_, _, _], _ => rfl) (fun X cdv A outer s H E hX hcd am => by subst hX; exact d_polynomial_holds am sc_polynomial_holds.nd rfl PassesOwn.never rfl rfl (fun _ => rfl) (g_subtract (P := P) (w := w) KX GX c hxb hns htr) (g_sign (P := P) (w := w) KX GX c hxb hns htr) (g_negative (P := P) (w := w) KX GX c hxb hns htr) (g_divide (P := P) (w := w) KX GX c hxb hns htr) (g_multiply (P := P) (w := w) KX GX c hxb hns htr) (g_add (P := P) (w := w) KX GX c hxb hns htr) (g_fraction (P := P) (w := w) KX GX c hxb hns htr).2)

theorem sc_form_of : FnScope (["one", "other", "trace", "mixed"] : List Str) (["one", "other", "trace"] : List Str) (defScope s_form_of) := ⟨rfl, rfl, rfl, by decide +kernel, rfl, by decide +kernel, by decide +kernel⟩
theorem d_form_of {X : Cx} (am : Amb 4 X) (hN : X.N.Nodup) (hc : X.calm = true) (hxe : PassesOwn (model X.prog X.w) X.A X.env X.xe) (eN : X.N = (["one", "other", "trace", "mixed"] : List Str)) (eS : X.env.scope = defScope s_form_of) (hfn : ∀ x, X.fn x = true) (G_multiply : FnG X.prog X.w X.K X.mg X.base "multiply" 3 PG.sp_multiply []) (G_subtract : FnG X.prog X.w X.K X.mg X.base "subtract" 4 PG.sp_subtract []) (G_add : FnG X.prog X.w X.K X.mg X.base "add" 3 PG.sp_add []) : JSs X (defBody s_form_of) PG.w_form_of := by
  have hr := am.rm
  have n0 : X.N[0]? = some ("one" : Str) := by rw [eN]; rfl
  have v0 : SlotOk X 0 "one" := slot_of eS eN hfn rfl (.inl rfl)
  have n1 : X.N[1]? = some ("other" : Str) := by rw [eN]; rfl
  have v1 : SlotOk X 1 "other" := slot_of eS eN hfn rfl (.inl rfl)
  have n2 : X.N[2]? = some ("trace" : Str) := by rw [eN]; rfl
  have v2 : SlotOk X 2 "trace" := slot_of eS eN hfn rfl (.inl rfl)
  have n3 : X.N[3]? = some ("mixed" : Str) := by rw [eN]; rfl
  have v3 : SlotOk X 3 "mixed" := slot_of eS eN hfn rfl (.inl rfl)
  have gl_multiply : Gl X "multiply" := gl_of eS rfl
  have gl_subtract : Gl X "subtract" := gl_of eS rfl
  have gl_add : Gl X "add" := gl_of eS rfl
  exact (js_cons (js_st hN v3 (je_cg G_multiply hr gl_multiply (ja_cons (je_cg G_multiply hr gl_multiply (ja_cons (je_v v2) (ja_cons (je_v v0) ja_nil))) (ja_cons (je_v v1) ja_nil))))
  (js_one (js_ret (je_cg G_add hr gl_add (ja_cons (je_cg G_subtract hr gl_subtract (ja_cons (je_cg G_multiply hr gl_multiply (ja_cons (je_v v0) (ja_cons (je_v v0) ja_nil))) (ja_cons (je_v v3) ja_nil))) (ja_cons (je_cg G_multiply hr gl_multiply (ja_cons (je_v v1) (ja_cons (je_v v1) ja_nil))) ja_nil))))))
theorem g_form_of (KX : K.In base) (GX : base.Ns mainGlobals mg) (c : He.SaysD fa fn K) (hxb : xb K = true) (hns : BaseOk K mg base) (htr : P.given.tree = none) : FnG P w K mg base "form_of" 5 PG.sp_form_of [] := by
  obtain ⟨fd, F⟩ := c.def_ 12 (d := dd_form_of) rfl
  unfold PG.sp_form_of
  exact mkG (N := (["one", "other", "trace", "mixed"] : List Str)) false hns htr F (He.glo_ok KX GX (c.fact 12 (f := .glo "form_of") rfl)) sc_form_of rfl rfl (fun _ _ _ _ _ _ us hl => match us, hl with | [_, _, _], _ => rfl) (fun X cdv A outer s H E hX hcd am => by subst hX; exact d_form_of am sc_form_of.nd rfl PassesOwn.never rfl rfl (fun _ => rfl) (g_multiply (P := P) (w := w) KX GX c hxb hns htr) (g_subtract (P := P) (w := w) KX GX c hxb hns htr) (g_add (P := P) (w := w) KX GX c hxb hns htr))

theorem sc_cycle_holds : FnScope (["one", "other", "trace", "bound", "turn"] : List Str) (["one", "other", "trace", "bound"] : List Str) (defScope s_cycle_holds) := ⟨rfl, rfl, rfl, by decide +kernel, rfl, by decide +kernel, by decide +kernel⟩
theorem d_cycle_holds {X : Cx} (am : Amb 6 X) (hN : X.N.Nodup) (hc : X.calm = true) (hxe : PassesOwn (model X.prog X.w) X.A X.env X.xe) (eN : X.N = (["one", "other", "trace", "bound", "turn"] : List Str)) (eS : X.env.scope = defScope s_cycle_holds) (hfn : ∀ x, X.fn x = true) (fr_range : X.mg "range" = none) (G_is_less : FnG X.prog X.w X.K X.mg X.base "is_less" 6 PG.sp_is_less []) (G_multiply : FnG X.prog X.w X.K X.mg X.base "multiply" 3 PG.sp_multiply []) (G_subtract : FnG X.prog X.w X.K X.mg X.base "subtract" 4 PG.sp_subtract []) (D_CYCLES : DctG X.K X.mg "CYCLES" PG.k_CYCLES) : JSs X (defBody s_cycle_holds) PG.w_cycle_holds := by
  have hr := am.rm
  have n0 : X.N[0]? = some ("one" : Str) := by rw [eN]; rfl
  have v0 : SlotOk X 0 "one" := slot_of eS eN hfn rfl (.inl rfl)
  have n1 : X.N[1]? = some ("other" : Str) := by rw [eN]; rfl
  have v1 : SlotOk X 1 "other" := slot_of eS eN hfn rfl (.inl rfl)
  have n2 : X.N[2]? = some ("trace" : Str) := by rw [eN]; rfl
  have v2 : SlotOk X 2 "trace" := slot_of eS eN hfn rfl (.inl rfl)
  have n3 : X.N[3]? = some ("bound" : Str) := by rw [eN]; rfl
  have v3 : SlotOk X 3 "bound" := slot_of eS eN hfn rfl (.inl rfl)
  have n4 : X.N[4]? = some ("turn" : Str) := by rw [eN]; rfl
  have v4 : SlotOk X 4 "turn" := slot_of eS eN hfn rfl (.inl rfl)
  have gl_range : Gl X "range" := gl_of eS rfl
  have gl_CYCLES : Gl X "CYCLES" := gl_of eS rfl
  have gl_is_less : Gl X "is_less" := gl_of eS rfl
  have gl_multiply : Gl X "multiply" := gl_of eS rfl
  have gl_subtract : Gl X "subtract" := gl_of eS rfl
  exact (js_cons (js_for hxe hc (ji_range1 gl_range fr_range (ja_cons (je_getK hr D_CYCLES gl_CYCLES (je_v v2)) ja_nil)) (jg_of (pg_v hN v4))
  (js_cons (js_if (jt_tru (je_cg G_is_less hr gl_is_less (ja_cons (je_v v3) (ja_cons (je_v v0) ja_nil))))
  (js_one (js_ret je_bl))
  js_nil)
  (js_one (js_par (i := 0) (j := 1) hc hN n0 n1 (by decide) (by rw [eS]; rfl) (by rw [eS]; rfl) (ja_cons (je_v v1) (ja_cons (je_cg G_subtract hr gl_subtract (ja_cons (je_cg G_multiply hr gl_multiply (ja_cons (je_v v2) (ja_cons (je_v v1) ja_nil))) (ja_cons (je_v v0) ja_nil))) ja_nil)) (swap_ok (by rw [eS]; rfl) (by rw [eS]; rfl) (by rw [eS]; rfl) (by decide) rfl rfl rfl (by decide +kernel) (by decide +kernel))))))
  (js_one (js_ret je_bl)))
theorem g_cycle_holds (KX : K.In base) (GX : base.Ns mainGlobals mg) (c : He.SaysD fa fn K) (hxb : xb K = true) (hns : BaseOk K mg base) (htr : P.given.tree = none) : FnG P w K mg base "cycle_holds" 7 PG.sp_cycle_holds [] := by
  obtain ⟨fd, F⟩ := c.def_ 13 (d := dd_cycle_holds) rfl
  unfold PG.sp_cycle_holds
  exact mkG (N := (["one", "other", "trace", "bound", "turn"] : List Str)) false hns htr F (He.glo_ok KX GX (c.fact 13 (f := .glo "cycle_holds") rfl)) sc_cycle_holds rfl rfl (fun _ _ _ _ _ _ us hl => match us, hl with | [_, _, _, _], _ => rfl) (fun X cdv A outer s H E hX hcd am => by subst hX; exact d_cycle_holds am sc_cycle_holds.nd rfl PassesOwn.never rfl rfl (fun _ => rfl) (He.free_ok KX GX (c.fact 35 (f := .free "range") rfl)) (g_is_less (P := P) (w := w) KX GX c hxb hns htr) (g_multiply (P := P) (w := w) KX GX c hxb hns htr) (g_subtract (P := P) (w := w) KX GX c hxb hns htr) (dct_CYCLES KX GX hxb))

theorem sc_ellipse_holds : FnScope (["one", "other", "trace", "bound", "widest"] : List Str) (["one", "other", "trace", "bound"] : List Str) (defScope s_ellipse_holds) := ⟨rfl, rfl, rfl, by decide +kernel, rfl, by decide +kernel, by decide +kernel⟩
theorem d_ellipse_holds {X : Cx} (am : Amb 6 X) (hN : X.N.Nodup) (hc : X.calm = true) (hxe : PassesOwn (model X.prog X.w) X.A X.env X.xe) (eN : X.N = (["one", "other", "trace", "bound", "widest"] : List Str)) (eS : X.env.scope = defScope s_ellipse_holds) (hfn : ∀ x, X.fn x = true) (G_sign : FnG X.prog X.w X.K X.mg X.base "sign" 1 PG.sp_sign []) (G_form_of : FnG X.prog X.w X.K X.mg X.base "form_of" 5 PG.sp_form_of []) (G_multiply : FnG X.prog X.w X.K X.mg X.base "multiply" 3 PG.sp_multiply []) (G_subtract : FnG X.prog X.w X.K X.mg X.base "subtract" 4 PG.sp_subtract []) (G_is_at_most : FnG X.prog X.w X.K X.mg X.base "is_at_most" 6 PG.sp_is_at_most []) (G1_fraction : FnG X.prog X.w X.K X.mg X.base "fraction" 2 PG.sp_fraction [.d (.int 1)]) : JSs X (defBody s_ellipse_holds) PG.w_ellipse_holds := by
  have hr := am.rm
  have n0 : X.N[0]? = some ("one" : Str) := by rw [eN]; rfl
  have v0 : SlotOk X 0 "one" := slot_of eS eN hfn rfl (.inl rfl)
  have n1 : X.N[1]? = some ("other" : Str) := by rw [eN]; rfl
  have v1 : SlotOk X 1 "other" := slot_of eS eN hfn rfl (.inl rfl)
  have n2 : X.N[2]? = some ("trace" : Str) := by rw [eN]; rfl
  have v2 : SlotOk X 2 "trace" := slot_of eS eN hfn rfl (.inl rfl)
  have n3 : X.N[3]? = some ("bound" : Str) := by rw [eN]; rfl
  have v3 : SlotOk X 3 "bound" := slot_of eS eN hfn rfl (.inl rfl)
  have n4 : X.N[4]? = some ("widest" : Str) := by rw [eN]; rfl
  have v4 : SlotOk X 4 "widest" := slot_of eS eN hfn rfl (.inl rfl)
  have gl_sign : Gl X "sign" := gl_of eS rfl
  have gl_form_of : Gl X "form_of" := gl_of eS rfl
  have gl_fraction : Gl X "fraction" := gl_of eS rfl
  have gl_multiply : Gl X "multiply" := gl_of eS rfl
  have gl_subtract : Gl X "subtract" := gl_of eS rfl
  have gl_is_at_most : Gl X "is_at_most" := gl_of eS rfl
  exact (js_cons (js_if (jt_cmp o_lt (je_cg G_sign hr gl_sign (ja_cons (je_v v3) ja_nil)) je_int (nomark _))
  (js_one (js_ret je_bl))
  js_nil)
  (js_cons (js_st hN v4 (je_cg G_multiply hr gl_multiply (ja_cons (je_cg G1_fraction hr gl_fraction (ja_cons je_int ja_nil)) (ja_cons (je_cg G_form_of hr gl_form_of (ja_cons (je_v v0) (ja_cons (je_v v1) (ja_cons (je_v v2) ja_nil)))) ja_nil))))
  (js_one (js_ret (je_cg G_is_at_most hr gl_is_at_most (ja_cons (je_v v4) (ja_cons (je_cg G_multiply hr gl_multiply (ja_cons (je_cg G_multiply hr gl_multiply (ja_cons (je_v v3) (ja_cons (je_v v3) ja_nil))) (ja_cons (je_cg G_subtract hr gl_subtract (ja_cons (je_cg G1_fraction hr gl_fraction (ja_cons je_int ja_nil)) (ja_cons (je_cg G_multiply hr gl_multiply (ja_cons (je_v v2) (ja_cons (je_v v2) ja_nil))) ja_nil))) ja_nil))) ja_nil)))))))
theorem g_ellipse_holds (KX : K.In base) (GX : base.Ns mainGlobals mg) (c : He.SaysD fa fn K) (hxb : xb K = true) (hns : BaseOk K mg base) (htr : P.given.tree = none) : FnG P w K mg base "ellipse_holds" 7 PG.sp_ellipse_holds [] := by
  obtain ⟨fd, F⟩ := c.def_ 14 (d := dd_ellipse_holds) rfl
  unfold PG.sp_ellipse_holds
  exact mkG (N := (["one", "other", "trace", "bound", "widest"] : List Str)) false hns htr F (He.glo_ok KX GX (c.fact 14 (f := .glo "ellipse_holds") rfl)) sc_ellipse_holds rfl rfl (fun _ _ _ _ _ _ us hl => match us, hl with | [_, _, _, _], _ => rfl) (fun X cdv A outer s H E hX hcd am => by subst hX; exact d_ellipse_holds am sc_ellipse_holds.nd rfl PassesOwn.never rfl rfl (fun _ => rfl) (g_sign (P := P) (w := w) KX GX c hxb hns htr) (g_form_of (P := P) (w := w) KX GX c hxb hns htr) (g_multiply (P := P) (w := w) KX GX c hxb hns htr) (g_subtract (P := P) (w := w) KX GX c hxb hns htr) (g_is_at_most (P := P) (w := w) KX GX c hxb hns htr) (g_fraction (P := P) (w := w) KX GX c hxb hns htr).2)

theorem sc_turning_holds : FnScope (["one", "other", "bound"] : List Str) (["one", "other", "bound"] : List Str) (defScope s_turning_holds) := ⟨rfl, rfl, rfl, by decide +kernel, rfl, by decide +kernel, by decide +kernel⟩
theorem d_turning_holds {X : Cx} (am : Amb 6 X) (hN : X.N.Nodup) (hc : X.calm = true) (hxe : PassesOwn (model X.prog X.w) X.A X.env X.xe) (eN : X.N = (["one", "other", "bound"] : List Str)) (eS : X.env.scope = defScope s_turning_holds) (hfn : ∀ x, X.fn x = true) (G_add : FnG X.prog X.w X.K X.mg X.base "add" 3 PG.sp_add []) (G_is_at_most : FnG X.prog X.w X.K X.mg X.base "is_at_most" 6 PG.sp_is_at_most []) (C_ZERO : CstG X.K X.mg "ZERO" PG.v_ZERO) : JSs X (defBody s_turning_holds) PG.w_turning_holds := by
  have hr := am.rm
  have n0 : X.N[0]? = some ("one" : Str) := by rw [eN]; rfl
  have v0 : SlotOk X 0 "one" := slot_of eS eN hfn rfl (.inl rfl)
  have n1 : X.N[1]? = some ("other" : Str) := by rw [eN]; rfl
  have v1 : SlotOk X 1 "other" := slot_of eS eN hfn rfl (.inl rfl)
  have n2 : X.N[2]? = some ("bound" : Str) := by rw [eN]; rfl
  have v2 : SlotOk X 2 "bound" := slot_of eS eN hfn rfl (.inl rfl)
  have gl_add : Gl X "add" := gl_of eS rfl
  have gl_ZERO : Gl X "ZERO" := gl_of eS rfl
  have gl_is_at_most : Gl X "is_at_most" := gl_of eS rfl
  exact (js_cons (js_if (jt_cmp (o_ne hr) (je_cg G_add hr gl_add (ja_cons (je_v v0) (ja_cons (je_v v1) ja_nil))) (je_glob ⟨gl_ZERO, C_ZERO, by decide⟩) (nomark _))
  (js_one (js_ret je_bl))
  js_nil)
  (js_one (js_ret (je_and (je_cg G_is_at_most hr gl_is_at_most (ja_cons (je_v v0) (ja_cons (je_v v2) ja_nil))) (je_one (je_cg G_is_at_most hr gl_is_at_most (ja_cons (je_v v1) (ja_cons (je_v v2) ja_nil))))))))
theorem g_turning_holds (KX : K.In base) (GX : base.Ns mainGlobals mg) (c : He.SaysD fa fn K) (hxb : xb K = true) (hns : BaseOk K mg base) (htr : P.given.tree = none) : FnG P w K mg base "turning_holds" 7 PG.sp_turning_holds [] := by
  obtain ⟨fd, F⟩ := c.def_ 15 (d := dd_turning_holds) rfl
  unfold PG.sp_turning_holds
  exact mkG (N := (["one", "other", "bound"] : List Str)) false hns htr F (He.glo_ok KX GX (c.fact 15 (f := .glo "turning_holds") rfl)) sc_turning_holds rfl rfl (fun _ _ _ _ _ _ us hl => match us, hl with | [_, _, _], _ => rfl) (fun X cdv A outer s H E hX hcd am => by subst hX; exact d_turning_holds am sc_turning_holds.nd rfl PassesOwn.never rfl rfl (fun _ => rfl) (g_add (P := P) (w := w) KX GX c hxb hns htr) (g_is_at_most (P := P) (w := w) KX GX c hxb hns htr) (cst_ZERO KX GX c hxb))

theorem sc_line_holds : FnScope (["one", "other", "bound"] : List Str) (["one", "other", "bound"] : List Str) (defScope s_line_holds) := ⟨rfl, rfl, rfl, by decide +kernel, rfl, by decide +kernel, by decide +kernel⟩
theorem d_line_holds {X : Cx} (am : Amb 6 X) (hN : X.N.Nodup) (hc : X.calm = true) (hxe : PassesOwn (model X.prog X.w) X.A X.env X.xe) (eN : X.N = (["one", "other", "bound"] : List Str)) (eS : X.env.scope = defScope s_line_holds) (hfn : ∀ x, X.fn x = true) (G_is_at_most : FnG X.prog X.w X.K X.mg X.base "is_at_most" 6 PG.sp_is_at_most []) (G_multiply : FnG X.prog X.w X.K X.mg X.base "multiply" 3 PG.sp_multiply []) (G_is_less : FnG X.prog X.w X.K X.mg X.base "is_less" 6 PG.sp_is_less []) (G_sign : FnG X.prog X.w X.K X.mg X.base "sign" 1 PG.sp_sign []) : JSs X (defBody s_line_holds) PG.w_line_holds := by
  have hr := am.rm
  have n0 : X.N[0]? = some ("one" : Str) := by rw [eN]; rfl
  have v0 : SlotOk X 0 "one" := slot_of eS eN hfn rfl (.inl rfl)
  have n1 : X.N[1]? = some ("other" : Str) := by rw [eN]; rfl
  have v1 : SlotOk X 1 "other" := slot_of eS eN hfn rfl (.inl rfl)
  have n2 : X.N[2]? = some ("bound" : Str) := by rw [eN]; rfl
  have v2 : SlotOk X 2 "bound" := slot_of eS eN hfn rfl (.inl rfl)
  have gl_is_at_most : Gl X "is_at_most" := gl_of eS rfl
  have gl_multiply : Gl X "multiply" := gl_of eS rfl
  have gl_is_less : Gl X "is_less" := gl_of eS rfl
  have gl_sign : Gl X "sign" := gl_of eS rfl
  exact (js_cons (js_if (jw_pt (jw_or (jt_not (jt_tru (je_cg G_is_at_most hr gl_is_at_most (ja_cons (je_v v0) (ja_cons (je_v v2) ja_nil))))) (jw_or1 (jt_not (jt_tru (je_cg G_is_at_most hr gl_is_at_most (ja_cons (je_v v1) (ja_cons (je_v v2) ja_nil))))))))
  (js_one (js_ret je_bl))
  js_nil)
  (js_cons (js_if (jt_tru (je_cg G_is_less hr gl_is_less (ja_cons (je_cg G_multiply hr gl_multiply (ja_cons (je_v v0) (ja_cons (je_v v0) ja_nil))) (ja_cons (je_cg G_multiply hr gl_multiply (ja_cons (je_v v1) (ja_cons (je_v v1) ja_nil))) ja_nil))))
  (js_one (js_ret (je_and (je_cmp o_lt (je_cg G_sign hr gl_sign (ja_cons (je_v v0) ja_nil)) je_int (nomark _)) (je_one (je_cmp o_lt (je_cg G_sign hr gl_sign (ja_cons (je_v v1) ja_nil)) je_int (nomark _))))))
  js_nil)
  (js_one (js_ret (je_cmp o_ge (je_cg G_sign hr gl_sign (ja_cons (je_v v2) ja_nil)) je_int (nomark _))))))
theorem g_line_holds (KX : K.In base) (GX : base.Ns mainGlobals mg) (c : He.SaysD fa fn K) (hxb : xb K = true) (hns : BaseOk K mg base) (htr : P.given.tree = none) : FnG P w K mg base "line_holds" 7 PG.sp_line_holds [] := by
  obtain ⟨fd, F⟩ := c.def_ 16 (d := dd_line_holds) rfl
  unfold PG.sp_line_holds
  exact mkG (N := (["one", "other", "bound"] : List Str)) false hns htr F (He.glo_ok KX GX (c.fact 16 (f := .glo "line_holds") rfl)) sc_line_holds rfl rfl (fun _ _ _ _ _ _ us hl => match us, hl with | [_, _, _], _ => rfl) (fun X cdv A outer s H E hX hcd am => by subst hX; exact d_line_holds am sc_line_holds.nd rfl PassesOwn.never rfl rfl (fun _ => rfl) (g_is_at_most (P := P) (w := w) KX GX c hxb hns htr) (g_multiply (P := P) (w := w) KX GX c hxb hns htr) (g_is_less (P := P) (w := w) KX GX c hxb hns htr) (g_sign (P := P) (w := w) KX GX c hxb hns htr))

theorem sc_growing_holds : FnScope (["one", "other", "trace", "bound"] : List Str) (["one", "other", "trace", "bound"] : List Str) (defScope s_growing_holds) := ⟨rfl, rfl, rfl, by decide +kernel, rfl, by decide +kernel, by decide +kernel⟩
theorem d_growing_holds {X : Cx} (am : Amb 6 X) (hN : X.N.Nodup) (hc : X.calm = true) (hxe : PassesOwn (model X.prog X.w) X.A X.env X.xe) (eN : X.N = (["one", "other", "trace", "bound"] : List Str)) (eS : X.env.scope = defScope s_growing_holds) (hfn : ∀ x, X.fn x = true) (G_is_at_most : FnG X.prog X.w X.K X.mg X.base "is_at_most" 6 PG.sp_is_at_most []) (G_sign : FnG X.prog X.w X.K X.mg X.base "sign" 1 PG.sp_sign []) (G_multiply : FnG X.prog X.w X.K X.mg X.base "multiply" 3 PG.sp_multiply []) (G_subtract : FnG X.prog X.w X.K X.mg X.base "subtract" 4 PG.sp_subtract []) : JSs X (defBody s_growing_holds) PG.w_growing_holds := by
  have hr := am.rm
  have n0 : X.N[0]? = some ("one" : Str) := by rw [eN]; rfl
  have v0 : SlotOk X 0 "one" := slot_of eS eN hfn rfl (.inl rfl)
  have n1 : X.N[1]? = some ("other" : Str) := by rw [eN]; rfl
  have v1 : SlotOk X 1 "other" := slot_of eS eN hfn rfl (.inl rfl)
  have n2 : X.N[2]? = some ("trace" : Str) := by rw [eN]; rfl
  have v2 : SlotOk X 2 "trace" := slot_of eS eN hfn rfl (.inl rfl)
  have n3 : X.N[3]? = some ("bound" : Str) := by rw [eN]; rfl
  have v3 : SlotOk X 3 "bound" := slot_of eS eN hfn rfl (.inl rfl)
  have gl_is_at_most : Gl X "is_at_most" := gl_of eS rfl
  have gl_sign : Gl X "sign" := gl_of eS rfl
  have gl_multiply : Gl X "multiply" := gl_of eS rfl
  have gl_subtract : Gl X "subtract" := gl_of eS rfl
  exact (js_cons (js_while hxe (jt_tru (je_cg G_is_at_most hr gl_is_at_most (ja_cons (je_v v0) (ja_cons (je_v v3) ja_nil))))
  (js_cons (js_if (jw_pt (jw_and (jt_cmp o_ge (je_cg G_sign hr gl_sign (ja_cons (je_v v0) ja_nil)) je_int (nomark _)) (jw_and1 (jt_tru (je_cg G_is_at_most hr gl_is_at_most (ja_cons (je_v v0) (ja_cons (je_v v1) ja_nil)))))))
  (js_one (js_ret je_bl))
  js_nil)
  (js_cons (js_if (jw_pt (jw_and (jt_cmp o_le (je_cg G_sign hr gl_sign (ja_cons (je_v v0) ja_nil)) je_int (nomark _)) (jw_and1 (jt_tru (je_cg G_is_at_most hr gl_is_at_most (ja_cons (je_v v1) (ja_cons (je_v v0) ja_nil)))))))
  (js_one (js_ret je_bl))
  js_nil)
  (js_one (js_par (i := 0) (j := 1) hc hN n0 n1 (by decide) (by rw [eS]; rfl) (by rw [eS]; rfl) (ja_cons (je_v v1) (ja_cons (je_cg G_subtract hr gl_subtract (ja_cons (je_cg G_multiply hr gl_multiply (ja_cons (je_v v2) (ja_cons (je_v v1) ja_nil))) (ja_cons (je_v v0) ja_nil))) ja_nil)) (swap_ok (by rw [eS]; rfl) (by rw [eS]; rfl) (by rw [eS]; rfl) (by decide) rfl rfl rfl (by decide +kernel) (by decide +kernel)))))))
  (js_one (js_ret je_bl)))
theorem g_growing_holds (KX : K.In base) (GX : base.Ns mainGlobals mg) (c : He.SaysD fa fn K) (hxb : xb K = true) (hns : BaseOk K mg base) (htr : P.given.tree = none) : FnG P w K mg base "growing_holds" 7 PG.sp_growing_holds [] := by
  obtain ⟨fd, F⟩ := c.def_ 17 (d := dd_growing_holds) rfl
  unfold PG.sp_growing_holds
  exact mkG (N := (["one", "other", "trace", "bound"] : List Str)) false hns htr F (He.glo_ok KX GX (c.fact 17 (f := .glo "growing_holds") rfl)) sc_growing_holds rfl rfl (fun _ _ _ _ _ _ us hl => match us, hl with | [_, _, _, _], _ => rfl) (fun X cdv A outer s H E hX hcd am => by subst hX; exact d_growing_holds am sc_growing_holds.nd rfl PassesOwn.never rfl rfl (fun _ => rfl) (g_is_at_most (P := P) (w := w) KX GX c hxb hns htr) (g_sign (P := P) (w := w) KX GX c hxb hns htr) (g_multiply (P := P) (w := w) KX GX c hxb hns htr) (g_subtract (P := P) (w := w) KX GX c hxb hns htr))

theorem sc_stays_below : FnScope (["first", "second", "third", "trace", "middle", "one", "other", "bound"] : List Str) (["first", "second", "third", "trace"] : List Str) (defScope s_stays_below) := ⟨rfl, rfl, rfl, by decide +kernel, rfl, by decide +kernel, by decide +kernel⟩
theorem d_stays_below {X : Cx} (am : Amb 7 X) (hN : X.N.Nodup) (hc : X.calm = true) (hxe : PassesOwn (model X.prog X.w) X.A X.env X.xe) (eN : X.N = (["first", "second", "third", "trace", "middle", "one", "other", "bound"] : List Str)) (eS : X.env.scope = defScope s_stays_below) (hfn : ∀ x, X.fn x = true) (G_polynomial_holds : FnG X.prog X.w X.K X.mg X.base "polynomial_holds" 5 PG.sp_polynomial_holds []) (G_subtract : FnG X.prog X.w X.K X.mg X.base "subtract" 4 PG.sp_subtract []) (G_multiply : FnG X.prog X.w X.K X.mg X.base "multiply" 3 PG.sp_multiply []) (G_add : FnG X.prog X.w X.K X.mg X.base "add" 3 PG.sp_add []) (G_divide : FnG X.prog X.w X.K X.mg X.base "divide" 3 PG.sp_divide []) (G_negative : FnG X.prog X.w X.K X.mg X.base "negative" 1 PG.sp_negative []) (G_cycle_holds : FnG X.prog X.w X.K X.mg X.base "cycle_holds" 7 PG.sp_cycle_holds []) (G_turning_holds : FnG X.prog X.w X.K X.mg X.base "turning_holds" 7 PG.sp_turning_holds []) (G_is_less : FnG X.prog X.w X.K X.mg X.base "is_less" 6 PG.sp_is_less []) (G_ellipse_holds : FnG X.prog X.w X.K X.mg X.base "ellipse_holds" 7 PG.sp_ellipse_holds []) (G_form_of : FnG X.prog X.w X.K X.mg X.base "form_of" 5 PG.sp_form_of []) (G_line_holds : FnG X.prog X.w X.K X.mg X.base "line_holds" 7 PG.sp_line_holds []) (G_sign : FnG X.prog X.w X.K X.mg X.base "sign" 1 PG.sp_sign []) (G_growing_holds : FnG X.prog X.w X.K X.mg X.base "growing_holds" 7 PG.sp_growing_holds []) (G1_fraction : FnG X.prog X.w X.K X.mg X.base "fraction" 2 PG.sp_fraction [.d (.int 1)]) (C_TWO : CstG X.K X.mg "TWO" PG.v_TWO) (C_ZERO : CstG X.K X.mg "ZERO" PG.v_ZERO) (D_CYCLES : DctG X.K X.mg "CYCLES" PG.k_CYCLES) : JSs X (defBody s_stays_below) PG.w_stays_below := by
  have hr := am.rm
  have n0 : X.N[0]? = some ("first" : Str) := by rw [eN]; rfl
  have v0 : SlotOk X 0 "first" := slot_of eS eN hfn rfl (.inl rfl)
  have n1 : X.N[1]? = some ("second" : Str) := by rw [eN]; rfl
  have v1 : SlotOk X 1 "second" := slot_of eS eN hfn rfl (.inl rfl)
  have n2 : X.N[2]? = some ("third" : Str) := by rw [eN]; rfl
  have v2 : SlotOk X 2 "third" := slot_of eS eN hfn rfl (.inl rfl)
  have n3 : X.N[3]? = some ("trace" : Str) := by rw [eN]; rfl
  have v3 : SlotOk X 3 "trace" := slot_of eS eN hfn rfl (.inl rfl)
  have n4 : X.N[4]? = some ("middle" : Str) := by rw [eN]; rfl
  have v4 : SlotOk X 4 "middle" := slot_of eS eN hfn rfl (.inl rfl)
  have n5 : X.N[5]? = some ("one" : Str) := by rw [eN]; rfl
  have v5 : SlotOk X 5 "one" := slot_of eS eN hfn rfl (.inl rfl)
  have n6 : X.N[6]? = some ("other" : Str) := by rw [eN]; rfl
  have v6 : SlotOk X 6 "other" := slot_of eS eN hfn rfl (.inl rfl)
  have n7 : X.N[7]? = some ("bound" : Str) := by rw [eN]; rfl
  have v7 : SlotOk X 7 "bound" := slot_of eS eN hfn rfl (.inl rfl)
  have gl_TWO : Gl X "TWO" := gl_of eS rfl
  have gl_polynomial_holds : Gl X "polynomial_holds" := gl_of eS rfl
  have gl_subtract : Gl X "subtract" := gl_of eS rfl
  have gl_multiply : Gl X "multiply" := gl_of eS rfl
  have gl_add : Gl X "add" := gl_of eS rfl
  have gl_divide : Gl X "divide" := gl_of eS rfl
  have gl_negative : Gl X "negative" := gl_of eS rfl
  have gl_CYCLES : Gl X "CYCLES" := gl_of eS rfl
  have gl_cycle_holds : Gl X "cycle_holds" := gl_of eS rfl
  have gl_turning_holds : Gl X "turning_holds" := gl_of eS rfl
  have gl_fraction : Gl X "fraction" := gl_of eS rfl
  have gl_is_less : Gl X "is_less" := gl_of eS rfl
  have gl_ellipse_holds : Gl X "ellipse_holds" := gl_of eS rfl
  have gl_form_of : Gl X "form_of" := gl_of eS rfl
  have gl_ZERO : Gl X "ZERO" := gl_of eS rfl
  have gl_line_holds : Gl X "line_holds" := gl_of eS rfl
  have gl_sign : Gl X "sign" := gl_of eS rfl
  have gl_growing_holds : Gl X "growing_holds" := gl_of eS rfl
  exact (js_cons (js_if (jt_cmp (o_eq hr) (je_v v3) (je_glob ⟨gl_TWO, C_TWO, by decide⟩) (nomark _))
  (js_one (js_ret (je_cg G_polynomial_holds hr gl_polynomial_holds (ja_cons (je_v v0) (ja_cons (je_v v1) (ja_cons (je_v v2) ja_nil))))))
  js_nil)
  (js_cons (js_st hN v4 (je_cg G_divide hr gl_divide (ja_cons (je_cg G_add hr gl_add (ja_cons (je_cg G_subtract hr gl_subtract (ja_cons (je_v v2) (ja_cons (je_cg G_multiply hr gl_multiply (ja_cons (je_v v3) (ja_cons (je_v v1) ja_nil))) ja_nil))) (ja_cons (je_v v0) ja_nil))) (ja_cons (je_cg G_subtract hr gl_subtract (ja_cons (je_glob ⟨gl_TWO, C_TWO, by decide⟩) (ja_cons (je_v v3) ja_nil))) ja_nil))))
  (js_cons (js_st hN v5 (je_cg G_subtract hr gl_subtract (ja_cons (je_v v0) (ja_cons (je_v v4) ja_nil))))
  (js_cons (js_st hN v6 (je_cg G_subtract hr gl_subtract (ja_cons (je_v v1) (ja_cons (je_v v4) ja_nil))))
  (js_cons (js_st hN v7 (je_cg G_negative hr gl_negative (ja_cons (je_v v4) ja_nil)))
  (js_cons (js_if (jt_inK hr D_CYCLES gl_CYCLES (je_v v3))
  (js_one (js_ret (je_cg G_cycle_holds hr gl_cycle_holds (ja_cons (je_v v5) (ja_cons (je_v v6) (ja_cons (je_v v3) (ja_cons (je_v v7) ja_nil)))))))
  js_nil)
  (js_cons (js_if (jt_cmp (o_eq hr) (je_v v3) (je_tup (ja_cons (je_neg je_int) (ja_cons je_int ja_nil))) (nomark _))
  (js_one (js_ret (je_cg G_turning_holds hr gl_turning_holds (ja_cons (je_v v5) (ja_cons (je_v v6) (ja_cons (je_v v7) ja_nil))))))
  js_nil)
  (js_cons (js_if (jt_tru (je_cg G_is_less hr gl_is_less (ja_cons (je_cg G_multiply hr gl_multiply (ja_cons (je_v v3) (ja_cons (je_v v3) ja_nil))) (ja_cons (je_cg G1_fraction hr gl_fraction (ja_cons je_int ja_nil)) ja_nil))))
  (js_one (js_ret (je_cg G_ellipse_holds hr gl_ellipse_holds (ja_cons (je_v v5) (ja_cons (je_v v6) (ja_cons (je_v v3) (ja_cons (je_v v7) ja_nil)))))))
  js_nil)
  (js_cons (js_if (jt_cmp (o_eq hr) (je_cg G_form_of hr gl_form_of (ja_cons (je_v v5) (ja_cons (je_v v6) (ja_cons (je_v v3) ja_nil)))) (je_glob ⟨gl_ZERO, C_ZERO, by decide⟩) (nomark _))
  (js_one (js_ret (je_cg G_line_holds hr gl_line_holds (ja_cons (je_v v5) (ja_cons (je_v v6) (ja_cons (je_v v7) ja_nil))))))
  js_nil)
  (js_cons (js_if (jt_cmp o_lt (je_cg G_sign hr gl_sign (ja_cons (je_v v3) ja_nil)) je_int (nomark _))
  (js_one (js_ret je_bl))
  js_nil)
  (js_one (js_ret (je_cg G_growing_holds hr gl_growing_holds (ja_cons (je_v v5) (ja_cons (je_v v6) (ja_cons (je_v v3) (ja_cons (je_v v7) ja_nil)))))))))))))))))
theorem g_stays_below (KX : K.In base) (GX : base.Ns mainGlobals mg) (c : He.SaysD fa fn K) (hxb : xb K = true) (hns : BaseOk K mg base) (htr : P.given.tree = none) : FnG P w K mg base "stays_below" 8 PG.sp_stays_below [] := by
  obtain ⟨fd, F⟩ := c.def_ 18 (d := dd_stays_below) rfl
  unfold PG.sp_stays_below
  exact mkG (N := (["first", "second", "third", "trace", "middle", "one", "other", "bound"] : List Str)) false hns htr F (He.glo_ok KX GX (c.fact 18 (f := .glo "stays_below") rfl)) sc_stays_below rfl rfl (fun _ _ _ _ _ _ us hl => match us, hl with | [_, _, _, _], _ => rfl) (fun X cdv A outer s H E hX hcd am => by subst hX; exact d_stays_below am sc_stays_below.nd rfl PassesOwn.never rfl rfl (fun _ => rfl) (g_polynomial_holds (P := P) (w := w) KX GX c hxb hns htr) (g_subtract (P := P) (w := w) KX GX c hxb hns htr) (g_multiply (P := P) (w := w) KX GX c hxb hns htr) (g_add (P := P) (w := w) KX GX c hxb hns htr) (g_divide (P := P) (w := w) KX GX c hxb hns htr) (g_negative (P := P) (w := w) KX GX c hxb hns htr) (g_cycle_holds (P := P) (w := w) KX GX c hxb hns htr) (g_turning_holds (P := P) (w := w) KX GX c hxb hns htr) (g_is_less (P := P) (w := w) KX GX c hxb hns htr) (g_ellipse_holds (P := P) (w := w) KX GX c hxb hns htr) (g_form_of (P := P) (w := w) KX GX c hxb hns htr) (g_line_holds (P := P) (w := w) KX GX c hxb hns htr) (g_sign (P := P) (w := w) KX GX c hxb hns htr) (g_growing_holds (P := P) (w := w) KX GX c hxb hns htr) (g_fraction (P := P) (w := w) KX GX c hxb hns htr).2 (cst_TWO KX GX c hxb) (cst_ZERO KX GX c hxb) (dct_CYCLES KX GX hxb))

theorem sc__law_cell : FnScope (["_law_script", "_law_k"] : List Str) (["_law_script", "_law_k"] : List Str) (defScope s__law_cell) := ⟨rfl, rfl, rfl, by decide +kernel, rfl, by decide +kernel, by decide +kernel⟩
theorem d__law_cell {X : Cx} (am : Amb 0 X) (hN : X.N.Nodup) (hc : X.calm = true) (hxe : PassesOwn (model X.prog X.w) X.A X.env X.xe) (eN : X.N = (["_law_script", "_law_k"] : List Str)) (eS : X.env.scope = defScope s__law_cell) (hfn : ∀ x, X.fn x = true) (fr_len : X.mg "len" = none) : JSs X (defBody s__law_cell) PG.w__law_cell := by
  have hr := am.rm
  have n0 : X.N[0]? = some ("_law_script" : Str) := by rw [eN]; rfl
  have v0 : SlotOk X 0 "_law_script" := slot_of eS eN hfn rfl (.inl rfl)
  have n1 : X.N[1]? = some ("_law_k" : Str) := by rw [eN]; rfl
  have v1 : SlotOk X 1 "_law_k" := slot_of eS eN hfn rfl (.inl rfl)
  have gl_len : Gl X "len" := gl_of eS rfl
  exact (js_cons (js_if (jt_cmp o_lt (je_v v1) (je_bi b_len gl_len fr_len RT.boot_len (ja_cons (je_v v0) ja_nil)) (nomark _))
  (js_one (js_ret (je_ix (je_v v0) (je_v v1))))
  js_nil)
  (js_one (js_ret je_int)))
theorem g__law_cell (KX : K.In base) (GX : base.Ns mainGlobals mg) (c : He.SaysD fa fn K) (hxb : xb K = true) (hns : BaseOk K mg base) (htr : P.given.tree = none) : FnG P w K mg base "_law_cell" 1 PG.sp__law_cell [] := by
  obtain ⟨fd, F⟩ := c.def_ 19 (d := dd__law_cell) rfl
  unfold PG.sp__law_cell
  exact mkG (N := (["_law_script", "_law_k"] : List Str)) false hns htr F (He.glo_ok KX GX (c.fact 19 (f := .glo "_law_cell") rfl)) sc__law_cell rfl rfl (fun _ _ _ _ _ _ us hl => match us, hl with | [_, _], _ => rfl) (fun X cdv A outer s H E hX hcd am => by subst hX; exact d__law_cell am sc__law_cell.nd rfl PassesOwn.never rfl rfl (fun _ => rfl) (He.free_ok KX GX (c.fact 36 (f := .free "len") rfl)))

theorem sc__law_row : FnScope (["_law_cell_here", "_law_k", "_law_many", "_law_row_here", "_law_turn", "_law_seed"] : List Str) (["_law_cell_here", "_law_k", "_law_many"] : List Str) (defScope s__law_row) := ⟨rfl, rfl, rfl, by decide +kernel, rfl, by decide +kernel, by decide +kernel⟩
theorem d__law_row {X : Cx} (am : Amb 0 X) (hN : X.N.Nodup) (hc : X.calm = true) (hxe : PassesOwn (model X.prog X.w) X.A X.env X.xe) (eN : X.N = (["_law_cell_here", "_law_k", "_law_many", "_law_row_here", "_law_turn", "_law_seed"] : List Str)) (eS : X.env.scope = defScope s__law_row) (hfn : ∀ x, X.fn x = true) (fr_range : X.mg "range" = none) (fr_len : X.mg "len" = none) (fr_int : X.mg "int" = none) : JSs X (defBody s__law_row) PG.w__law_row := by
  have hr := am.rm
  have n0 : X.N[0]? = some ("_law_cell_here" : Str) := by rw [eN]; rfl
  have v0 : SlotOk X 0 "_law_cell_here" := slot_of eS eN hfn rfl (.inl rfl)
  have n1 : X.N[1]? = some ("_law_k" : Str) := by rw [eN]; rfl
  have v1 : SlotOk X 1 "_law_k" := slot_of eS eN hfn rfl (.inl rfl)
  have n2 : X.N[2]? = some ("_law_many" : Str) := by rw [eN]; rfl
  have v2 : SlotOk X 2 "_law_many" := slot_of eS eN hfn rfl (.inl rfl)
  have n3 : X.N[3]? = some ("_law_row_here" : Str) := by rw [eN]; rfl
  have v3 : SlotOk X 3 "_law_row_here" := slot_of eS eN hfn rfl (.inl rfl)
  have n4 : X.N[4]? = some ("_law_turn" : Str) := by rw [eN]; rfl
  have v4 : SlotOk X 4 "_law_turn" := slot_of eS eN hfn rfl (.inl rfl)
  have n5 : X.N[5]? = some ("_law_seed" : Str) := by rw [eN]; rfl
  have v5 : SlotOk X 5 "_law_seed" := slot_of eS eN hfn rfl (.inl rfl)
  have gl_range : Gl X "range" := gl_of eS rfl
  have gl_len : Gl X "len" := gl_of eS rfl
  have gl_int : Gl X "int" := gl_of eS rfl
  exact (js_cons (js_st hN v3 (je_lstO ja_nil))
  (js_cons (js_if (jt_cmp o_lt (je_v v0) je_int (nomark _))
  (js_one (js_st hN v0 (je_op o_sub je_int (je_op o_mul je_int (je_v v0)))))
  js_nil)
  (js_cons (js_if (jt_cmp o_ge (je_v v0) (je_op o_pow je_int je_int) (nomark _))
  (js_cons (js_for hxe hc (ji_range1 gl_range fr_range (ja_cons je_int ja_nil)) (jg_of (pg_v hN v4))
  (js_one (js_if (jw_pt (jw_and (jt_cmp o_gt (je_v v0) je_int (nomark _)) (jw_and1 (jt_cmp o_lt (je_bi b_len gl_len fr_len RT.boot_len (ja_cons (je_v v3) ja_nil)) (je_v v2) (nomark _)))))
  (js_cons (js_do (je_meth PySem.F.slot_list_append PySem.F.type_list_append m_append (je_v v3) (ja_cons (je_op o_mod (je_bty b_int gl_int fr_int RT.boot_int (ja_cons (je_v v0) ja_nil)) je_int) ja_nil)))
  (js_one (js_st hN v0 (je_op (o_fdiv am.py) (je_v v0) je_int))))
  js_nil)))
  (js_one (js_ret (je_v v3))))
  js_nil)
  (js_cons (js_st hN v5 (je_op o_mod (je_bty b_int gl_int fr_int RT.boot_int (ja_cons (je_op o_addA (je_op o_addA (je_op o_mul (je_v v0) je_int) (je_op o_mul (je_v v1) je_int)) je_int) ja_nil)) je_int))
  (js_cons (js_for hxe hc (ji_range1 gl_range fr_range (ja_cons (je_v v2) ja_nil)) (jg_of (pg_v hN v4))
  (js_cons (js_st hN v5 (je_op o_mod (je_bty b_int gl_int fr_int RT.boot_int (ja_cons (je_op o_addA (je_op o_addA (je_op o_mul (je_v v5) je_int) (je_op o_mul je_int (je_v v4))) je_int) ja_nil)) je_int))
  (js_one (js_do (je_meth PySem.F.slot_list_append PySem.F.type_list_append m_append (je_v v3) (ja_cons (je_op o_mod (je_bty b_int gl_int fr_int RT.boot_int (ja_cons (je_op (o_fdiv am.py) (je_v v5) je_int) ja_nil)) je_int) ja_nil))))))
  (js_one (js_ret (je_v v3))))))))
theorem g__law_row (KX : K.In base) (GX : base.Ns mainGlobals mg) (c : He.SaysD fa fn K) (hxb : xb K = true) (hns : BaseOk K mg base) (htr : P.given.tree = none) : FnG P w K mg base "_law_row" 1 PG.sp__law_row [] := by
  obtain ⟨fd, F⟩ := c.def_ 20 (d := dd__law_row) rfl
  unfold PG.sp__law_row
  exact mkG (N := (["_law_cell_here", "_law_k", "_law_many", "_law_row_here", "_law_turn", "_law_seed"] : List Str)) false hns htr F (He.glo_ok KX GX (c.fact 20 (f := .glo "_law_row") rfl)) sc__law_row rfl rfl (fun _ _ _ _ _ _ us hl => match us, hl with | [_, _, _], _ => rfl) (fun X cdv A outer s H E hX hcd am => by subst hX; exact d__law_row am sc__law_row.nd rfl PassesOwn.never rfl rfl (fun _ => rfl) (He.free_ok KX GX (c.fact 35 (f := .free "range") rfl)) (He.free_ok KX GX (c.fact 36 (f := .free "len") rfl)) (He.free_ok KX GX (c.fact 37 (f := .free "int") rfl)))

theorem sc__law_box : FnScope (["_law_script", "_law_first", "_law_last", "_law_row_here", "_law_k"] : List Str) (["_law_script", "_law_first", "_law_last"] : List Str) (defScope s__law_box) := ⟨rfl, rfl, rfl, by decide +kernel, rfl, by decide +kernel, by decide +kernel⟩
theorem d__law_box {X : Cx} (am : Amb 1 X) (hN : X.N.Nodup) (hc : X.calm = true) (hxe : PassesOwn (model X.prog X.w) X.A X.env X.xe) (eN : X.N = (["_law_script", "_law_first", "_law_last", "_law_row_here", "_law_k"] : List Str)) (eS : X.env.scope = defScope s__law_box) (hfn : ∀ x, X.fn x = true) (fr_range : X.mg "range" = none) (G__law_cell : FnG X.prog X.w X.K X.mg X.base "_law_cell" 1 PG.sp__law_cell []) (G__law_row : FnG X.prog X.w X.K X.mg X.base "_law_row" 1 PG.sp__law_row []) : JSs X (defBody s__law_box) PG.w__law_box := by
  have hr := am.rm
  have n0 : X.N[0]? = some ("_law_script" : Str) := by rw [eN]; rfl
  have v0 : SlotOk X 0 "_law_script" := slot_of eS eN hfn rfl (.inl rfl)
  have n1 : X.N[1]? = some ("_law_first" : Str) := by rw [eN]; rfl
  have v1 : SlotOk X 1 "_law_first" := slot_of eS eN hfn rfl (.inl rfl)
  have n2 : X.N[2]? = some ("_law_last" : Str) := by rw [eN]; rfl
  have v2 : SlotOk X 2 "_law_last" := slot_of eS eN hfn rfl (.inl rfl)
  have n3 : X.N[3]? = some ("_law_row_here" : Str) := by rw [eN]; rfl
  have v3 : SlotOk X 3 "_law_row_here" := slot_of eS eN hfn rfl (.inl rfl)
  have n4 : X.N[4]? = some ("_law_k" : Str) := by rw [eN]; rfl
  have v4 : SlotOk X 4 "_law_k" := slot_of eS eN hfn rfl (.inl rfl)
  have gl_range : Gl X "range" := gl_of eS rfl
  have gl__law_cell : Gl X "_law_cell" := gl_of eS rfl
  have gl__law_row : Gl X "_law_row" := gl_of eS rfl
  exact (js_cons (js_st hN v3 (je_lst ja_nil))
  (js_cons (js_for hxe hc (ji_range2 gl_range fr_range (ja_cons (je_v v1) (ja_cons (je_v v2) ja_nil))) (jg_of (pg_v hN v4))
  (js_one (js_st hN v3 (je_op o_addA (je_v v3) (je_cg G__law_row hr gl__law_row (ja_cons (je_cg G__law_cell hr gl__law_cell (ja_cons (je_v v0) (ja_cons (je_v v4) ja_nil))) (ja_cons (je_v v4) (ja_cons je_int ja_nil))))))))
  (js_one (js_ret (je_lstO (ja_cons (je_v v3) (ja_cons je_int ja_nil)))))))
theorem g__law_box (KX : K.In base) (GX : base.Ns mainGlobals mg) (c : He.SaysD fa fn K) (hxb : xb K = true) (hns : BaseOk K mg base) (htr : P.given.tree = none) : FnG P w K mg base "_law_box" 2 PG.sp__law_box [] := by
  obtain ⟨fd, F⟩ := c.def_ 21 (d := dd__law_box) rfl
  unfold PG.sp__law_box
  exact mkG (N := (["_law_script", "_law_first", "_law_last", "_law_row_here", "_law_k"] : List Str)) true hns htr F (He.glo_ok KX GX (c.fact 21 (f := .glo "_law_box") rfl)) sc__law_box rfl rfl (fun _ _ _ _ _ _ us hl => match us, hl with | [_, _, _], _ => rfl) (fun X cdv A outer s H E hX hcd am => by subst hX; exact d__law_box am sc__law_box.nd rfl PassesOwn.never rfl rfl (fun _ => rfl) (He.free_ok KX GX (c.fact 35 (f := .free "range") rfl)) (g__law_cell (P := P) (w := w) KX GX c hxb hns htr) (g__law_row (P := P) (w := w) KX GX c hxb hns htr))

theorem sc__law_draw : FnScope (["_law_box_here", "_law_many", "_law_at"] : List Str) (["_law_box_here", "_law_many"] : List Str) (defScope s__law_draw) := ⟨rfl, rfl, rfl, by decide +kernel, rfl, by decide +kernel, by decide +kernel⟩
theorem d__law_draw {X : Cx} (am : Amb 0 X) (hN : X.N.Nodup) (hc : X.calm = true) (hxe : PassesOwn (model X.prog X.w) X.A X.env X.xe) (eN : X.N = (["_law_box_here", "_law_many", "_law_at"] : List Str)) (eS : X.env.scope = defScope s__law_draw) (hfn : ∀ x, X.fn x = true) (fr_len : X.mg "len" = none) (fr_int : X.mg "int" = none) : JSs X (defBody s__law_draw) PG.w__law_draw_2 := by
  have hr := am.rm
  have n0 : X.N[0]? = some ("_law_box_here" : Str) := by rw [eN]; rfl
  have v0 : SlotOk X 0 "_law_box_here" := slot_of eS eN hfn rfl (.inl rfl)
  have n1 : X.N[1]? = some ("_law_many" : Str) := by rw [eN]; rfl
  have v1 : SlotOk X 1 "_law_many" := slot_of eS eN hfn rfl (.inl rfl)
  have n2 : X.N[2]? = some ("_law_at" : Str) := by rw [eN]; rfl
  have v2 : SlotOk X 2 "_law_at" := slot_of eS eN hfn rfl (.inl rfl)
  have gl_len : Gl X "len" := gl_of eS rfl
  have gl_int : Gl X "int" := gl_of eS rfl
  exact (js_cons (js_st hN v2 (je_ix (je_v v0) je_int))
  (js_cons (js_setIx (je_op o_addA (je_v v2) je_int) (pg_sub (je_v v0) je_int set_list))
  (js_cons (js_if (jt_cmp o_lt (je_v v2) (je_bi b_len gl_len fr_len RT.boot_len (ja_cons (je_ix (je_v v0) je_int) ja_nil)) (nomark _))
  (js_one (js_ret (je_op o_mod (je_bty b_int gl_int fr_int RT.boot_int (ja_cons (je_ix (je_ix (je_v v0) je_int) (je_v v2)) ja_nil)) (je_v v1))))
  js_nil)
  (js_one (js_ret (je_op o_mod (je_bty b_int gl_int fr_int RT.boot_int (ja_cons (je_op o_addA (je_op o_mul (je_v v2) je_int) je_int) ja_nil)) (je_v v1)))))))
theorem g__law_draw (KX : K.In base) (GX : base.Ns mainGlobals mg) (c : He.SaysD fa fn K) (hxb : xb K = true) (hns : BaseOk K mg base) (htr : P.given.tree = none) : FnG P w K mg base "_law_draw" 1 PG.sp__law_draw_2 [] := by
  obtain ⟨fd, F⟩ := c.def_ 22 (d := dd__law_draw) rfl
  unfold PG.sp__law_draw_2
  exact mkG (N := (["_law_box_here", "_law_many", "_law_at"] : List Str)) false hns htr F (He.glo_ok KX GX (c.fact 22 (f := .glo "_law_draw") rfl)) sc__law_draw rfl rfl (fun _ _ _ _ _ _ us hl => match us, hl with | [_, _], _ => rfl) (fun X cdv A outer s H E hX hcd am => by subst hX; exact d__law_draw am sc__law_draw.nd rfl PassesOwn.never rfl rfl (fun _ => rfl) (He.free_ok KX GX (c.fact 36 (f := .free "len") rfl)) (He.free_ok KX GX (c.fact 37 (f := .free "int") rfl)))

theorem sc__law_same : FnScope (["_law_one", "_law_other"] : List Str) (["_law_one", "_law_other"] : List Str) (defScope s__law_same) := ⟨rfl, rfl, rfl, by decide +kernel, rfl, by decide +kernel, by decide +kernel⟩
theorem d__law_same {X : Cx} (am : Amb 0 X) (hN : X.N.Nodup) (hc : X.calm = true) (hxe : PassesOwn (model X.prog X.w) X.A X.env X.xe) (eN : X.N = (["_law_one", "_law_other"] : List Str)) (eS : X.env.scope = defScope s__law_same) (hfn : ∀ x, X.fn x = true) (fr_repr : X.mg "repr" = none) : JSs X (defBody s__law_same) PG.w__law_same := by
  have hr := am.rm
  have n0 : X.N[0]? = some ("_law_one" : Str) := by rw [eN]; rfl
  have v0 : SlotOk X 0 "_law_one" := slot_of eS eN hfn rfl (.inl rfl)
  have n1 : X.N[1]? = some ("_law_other" : Str) := by rw [eN]; rfl
  have v1 : SlotOk X 1 "_law_other" := slot_of eS eN hfn rfl (.inl rfl)
  have gl_repr : Gl X "repr" := gl_of eS rfl
  exact (js_one (js_ret (je_cmp o_eqT (je_bi (b_repr hr) gl_repr fr_repr RT.boot_repr (ja_cons (je_v v0) ja_nil)) (je_bi (b_repr hr) gl_repr fr_repr RT.boot_repr (ja_cons (je_v v1) ja_nil)) (nomark _))))
theorem g__law_same (KX : K.In base) (GX : base.Ns mainGlobals mg) (c : He.SaysD fa fn K) (hxb : xb K = true) (hns : BaseOk K mg base) (htr : P.given.tree = none) : FnG P w K mg base "_law_same" 1 PG.sp__law_same [] := by
  obtain ⟨fd, F⟩ := c.def_ 23 (d := dd__law_same) rfl
  unfold PG.sp__law_same
  exact mkG (N := (["_law_one", "_law_other"] : List Str)) false hns htr F (He.glo_ok KX GX (c.fact 23 (f := .glo "_law_same") rfl)) sc__law_same rfl rfl (fun _ _ _ _ _ _ us hl => match us, hl with | [_, _], _ => rfl) (fun X cdv A outer s H E hX hcd am => by subst hX; exact d__law_same am sc__law_same.nd rfl PassesOwn.never rfl rfl (fun _ => rfl) (He.free_ok KX GX (c.fact 38 (f := .free "repr") rfl)))

theorem sc__law_frac : FnScope (["_law_top", "_law_bottom", "_law_one", "_law_other"] : List Str) (["_law_top", "_law_bottom"] : List Str) (defScope s__law_frac) := ⟨rfl, rfl, rfl, by decide +kernel, rfl, by decide +kernel, by decide +kernel⟩
theorem d__law_frac {X : Cx} (am : Amb 0 X) (hN : X.N.Nodup) (hc : X.calm = true) (hxe : PassesOwn (model X.prog X.w) X.A X.env X.xe) (eN : X.N = (["_law_top", "_law_bottom", "_law_one", "_law_other"] : List Str)) (eS : X.env.scope = defScope s__law_frac) (hfn : ∀ x, X.fn x = true) (fr_abs : X.mg "abs" = none) (fr_int : X.mg "int" = none) : JSs X (defBody s__law_frac) PG.w__law_frac := by
  have hr := am.rm
  have n0 : X.N[0]? = some ("_law_top" : Str) := by rw [eN]; rfl
  have v0 : SlotOk X 0 "_law_top" := slot_of eS eN hfn rfl (.inl rfl)
  have n1 : X.N[1]? = some ("_law_bottom" : Str) := by rw [eN]; rfl
  have v1 : SlotOk X 1 "_law_bottom" := slot_of eS eN hfn rfl (.inl rfl)
  have n2 : X.N[2]? = some ("_law_one" : Str) := by rw [eN]; rfl
  have v2 : SlotOk X 2 "_law_one" := slot_of eS eN hfn rfl (.inl rfl)
  have n3 : X.N[3]? = some ("_law_other" : Str) := by rw [eN]; rfl
  have v3 : SlotOk X 3 "_law_other" := slot_of eS eN hfn rfl (.inl rfl)
  have gl_abs : Gl X "abs" := gl_of eS rfl
  have gl_int : Gl X "int" := gl_of eS rfl
  exact (js_cons (js_st hN v2 (je_bi b_abs gl_abs fr_abs RT.boot_abs (ja_cons (je_v v0) ja_nil)))
  (js_cons (js_st hN v3 (je_bi b_abs gl_abs fr_abs RT.boot_abs (ja_cons (je_v v1) ja_nil)))
  (js_cons (js_while hxe (jt_cmp o_gt (je_v v3) je_int (nomark _))
  (js_one (js_par (i := 2) (j := 3) hc hN n2 n3 (by decide) (by rw [eS]; rfl) (by rw [eS]; rfl) (ja_cons (je_v v3) (ja_cons (je_op o_mod (je_bty b_int gl_int fr_int RT.boot_int (ja_cons (je_v v2) ja_nil)) (je_bty b_int gl_int fr_int RT.boot_int (ja_cons (je_v v3) ja_nil))) ja_nil)) (swap_ok (by rw [eS]; rfl) (by rw [eS]; rfl) (by rw [eS]; rfl) (by decide) rfl rfl rfl (by decide +kernel) (by decide +kernel)))))
  (js_cons (js_if (jt_cmp o_lt (je_v v1) je_int (nomark _))
  (js_one (js_st hN v2 (je_neg (je_v v2))))
  js_nil)
  (js_one (js_ret (je_tup (ja_cons (je_op (o_fdiv am.py) (je_v v0) (je_v v2)) (ja_cons (je_op (o_fdiv am.py) (je_v v1) (je_v v2)) ja_nil)))))))))
theorem g__law_frac (KX : K.In base) (GX : base.Ns mainGlobals mg) (c : He.SaysD fa fn K) (hxb : xb K = true) (hns : BaseOk K mg base) (htr : P.given.tree = none) : FnG P w K mg base "_law_frac" 1 PG.sp__law_frac [] := by
  obtain ⟨fd, F⟩ := c.def_ 24 (d := dd__law_frac) rfl
  unfold PG.sp__law_frac
  exact mkG (N := (["_law_top", "_law_bottom", "_law_one", "_law_other"] : List Str)) false hns htr F (He.glo_ok KX GX (c.fact 24 (f := .glo "_law_frac") rfl)) sc__law_frac rfl rfl (fun _ _ _ _ _ _ us hl => match us, hl with | [_, _], _ => rfl) (fun X cdv A outer s H E hX hcd am => by subst hX; exact d__law_frac am sc__law_frac.nd rfl PassesOwn.never rfl rfl (fun _ => rfl) (He.free_ok KX GX (c.fact 34 (f := .free "abs") rfl)) (He.free_ok KX GX (c.fact 37 (f := .free "int") rfl)))

theorem sc__law_add : FnScope (["_law_one", "_law_other"] : List Str) (["_law_one", "_law_other"] : List Str) (defScope s__law_add) := ⟨rfl, rfl, rfl, by decide +kernel, rfl, by decide +kernel, by decide +kernel⟩
theorem d__law_add {X : Cx} (am : Amb 1 X) (hN : X.N.Nodup) (hc : X.calm = true) (hxe : PassesOwn (model X.prog X.w) X.A X.env X.xe) (eN : X.N = (["_law_one", "_law_other"] : List Str)) (eS : X.env.scope = defScope s__law_add) (hfn : ∀ x, X.fn x = true) (G__law_frac : FnG X.prog X.w X.K X.mg X.base "_law_frac" 1 PG.sp__law_frac []) : JSs X (defBody s__law_add) PG.w__law_add_2 := by
  have hr := am.rm
  have n0 : X.N[0]? = some ("_law_one" : Str) := by rw [eN]; rfl
  have v0 : SlotOk X 0 "_law_one" := slot_of eS eN hfn rfl (.inl rfl)
  have n1 : X.N[1]? = some ("_law_other" : Str) := by rw [eN]; rfl
  have v1 : SlotOk X 1 "_law_other" := slot_of eS eN hfn rfl (.inl rfl)
  have gl__law_frac : Gl X "_law_frac" := gl_of eS rfl
  exact (js_one (js_ret (je_cg G__law_frac hr gl__law_frac (ja_cons (je_op o_addA (je_op o_mul (je_ix (je_v v0) je_int) (je_ix (je_v v1) je_int)) (je_op o_mul (je_ix (je_v v1) je_int) (je_ix (je_v v0) je_int))) (ja_cons (je_op o_mul (je_ix (je_v v0) je_int) (je_ix (je_v v1) je_int)) ja_nil)))))
theorem g__law_add (KX : K.In base) (GX : base.Ns mainGlobals mg) (c : He.SaysD fa fn K) (hxb : xb K = true) (hns : BaseOk K mg base) (htr : P.given.tree = none) : FnG P w K mg base "_law_add" 2 PG.sp__law_add_2 [] := by
  obtain ⟨fd, F⟩ := c.def_ 25 (d := dd__law_add) rfl
  unfold PG.sp__law_add_2
  exact mkG (N := (["_law_one", "_law_other"] : List Str)) false hns htr F (He.glo_ok KX GX (c.fact 25 (f := .glo "_law_add") rfl)) sc__law_add rfl rfl (fun _ _ _ _ _ _ us hl => match us, hl with | [_, _], _ => rfl) (fun X cdv A outer s H E hX hcd am => by subst hX; exact d__law_add am sc__law_add.nd rfl PassesOwn.never rfl rfl (fun _ => rfl) (g__law_frac (P := P) (w := w) KX GX c hxb hns htr))

theorem sc__law_neg : FnScope (["_law_one"] : List Str) (["_law_one"] : List Str) (defScope s__law_neg) := ⟨rfl, rfl, rfl, by decide +kernel, rfl, by decide +kernel, by decide +kernel⟩
theorem d__law_neg {X : Cx} (am : Amb 0 X) (hN : X.N.Nodup) (hc : X.calm = true) (hxe : PassesOwn (model X.prog X.w) X.A X.env X.xe) (eN : X.N = (["_law_one"] : List Str)) (eS : X.env.scope = defScope s__law_neg) (hfn : ∀ x, X.fn x = true) : JSs X (defBody s__law_neg) PG.w__law_neg := by
  have hr := am.rm
  have n0 : X.N[0]? = some ("_law_one" : Str) := by rw [eN]; rfl
  have v0 : SlotOk X 0 "_law_one" := slot_of eS eN hfn rfl (.inl rfl)
  exact (js_one (js_ret (je_tup (ja_cons (je_neg (je_ix (je_v v0) je_int)) (ja_cons (je_ix (je_v v0) je_int) ja_nil)))))
theorem g__law_neg (KX : K.In base) (GX : base.Ns mainGlobals mg) (c : He.SaysD fa fn K) (hxb : xb K = true) (hns : BaseOk K mg base) (htr : P.given.tree = none) : FnG P w K mg base "_law_neg" 1 PG.sp__law_neg [] := by
  obtain ⟨fd, F⟩ := c.def_ 26 (d := dd__law_neg) rfl
  unfold PG.sp__law_neg
  exact mkG (N := (["_law_one"] : List Str)) false hns htr F (He.glo_ok KX GX (c.fact 26 (f := .glo "_law_neg") rfl)) sc__law_neg rfl rfl (fun _ _ _ _ _ _ us hl => match us, hl with | [_], _ => rfl) (fun X cdv A outer s H E hX hcd am => by subst hX; exact d__law_neg am sc__law_neg.nd rfl PassesOwn.never rfl rfl (fun _ => rfl))

theorem sc__law_sub : FnScope (["_law_one", "_law_other"] : List Str) (["_law_one", "_law_other"] : List Str) (defScope s__law_sub) := ⟨rfl, rfl, rfl, by decide +kernel, rfl, by decide +kernel, by decide +kernel⟩
theorem d__law_sub {X : Cx} (am : Amb 2 X) (hN : X.N.Nodup) (hc : X.calm = true) (hxe : PassesOwn (model X.prog X.w) X.A X.env X.xe) (eN : X.N = (["_law_one", "_law_other"] : List Str)) (eS : X.env.scope = defScope s__law_sub) (hfn : ∀ x, X.fn x = true) (G__law_neg : FnG X.prog X.w X.K X.mg X.base "_law_neg" 1 PG.sp__law_neg []) (G__law_add : FnG X.prog X.w X.K X.mg X.base "_law_add" 2 PG.sp__law_add_2 []) : JSs X (defBody s__law_sub) PG.w__law_sub_2 := by
  have hr := am.rm
  have n0 : X.N[0]? = some ("_law_one" : Str) := by rw [eN]; rfl
  have v0 : SlotOk X 0 "_law_one" := slot_of eS eN hfn rfl (.inl rfl)
  have n1 : X.N[1]? = some ("_law_other" : Str) := by rw [eN]; rfl
  have v1 : SlotOk X 1 "_law_other" := slot_of eS eN hfn rfl (.inl rfl)
  have gl__law_neg : Gl X "_law_neg" := gl_of eS rfl
  have gl__law_add : Gl X "_law_add" := gl_of eS rfl
  exact (js_one (js_ret (je_cg G__law_add hr gl__law_add (ja_cons (je_v v0) (ja_cons (je_cg G__law_neg hr gl__law_neg (ja_cons (je_v v1) ja_nil)) ja_nil)))))
theorem g__law_sub (KX : K.In base) (GX : base.Ns mainGlobals mg) (c : He.SaysD fa fn K) (hxb : xb K = true) (hns : BaseOk K mg base) (htr : P.given.tree = none) : FnG P w K mg base "_law_sub" 3 PG.sp__law_sub_2 [] := by
  obtain ⟨fd, F⟩ := c.def_ 27 (d := dd__law_sub) rfl
  unfold PG.sp__law_sub_2
  exact mkG (N := (["_law_one", "_law_other"] : List Str)) false hns htr F (He.glo_ok KX GX (c.fact 27 (f := .glo "_law_sub") rfl)) sc__law_sub rfl rfl (fun _ _ _ _ _ _ us hl => match us, hl with | [_, _], _ => rfl) (fun X cdv A outer s H E hX hcd am => by subst hX; exact d__law_sub am sc__law_sub.nd rfl PassesOwn.never rfl rfl (fun _ => rfl) (g__law_neg (P := P) (w := w) KX GX c hxb hns htr) (g__law_add (P := P) (w := w) KX GX c hxb hns htr))

theorem sc__law_mul : FnScope (["_law_one", "_law_other"] : List Str) (["_law_one", "_law_other"] : List Str) (defScope s__law_mul) := ⟨rfl, rfl, rfl, by decide +kernel, rfl, by decide +kernel, by decide +kernel⟩
theorem d__law_mul {X : Cx} (am : Amb 1 X) (hN : X.N.Nodup) (hc : X.calm = true) (hxe : PassesOwn (model X.prog X.w) X.A X.env X.xe) (eN : X.N = (["_law_one", "_law_other"] : List Str)) (eS : X.env.scope = defScope s__law_mul) (hfn : ∀ x, X.fn x = true) (G__law_frac : FnG X.prog X.w X.K X.mg X.base "_law_frac" 1 PG.sp__law_frac []) : JSs X (defBody s__law_mul) PG.w__law_mul_2 := by
  have hr := am.rm
  have n0 : X.N[0]? = some ("_law_one" : Str) := by rw [eN]; rfl
  have v0 : SlotOk X 0 "_law_one" := slot_of eS eN hfn rfl (.inl rfl)
  have n1 : X.N[1]? = some ("_law_other" : Str) := by rw [eN]; rfl
  have v1 : SlotOk X 1 "_law_other" := slot_of eS eN hfn rfl (.inl rfl)
  have gl__law_frac : Gl X "_law_frac" := gl_of eS rfl
  exact (js_one (js_ret (je_cg G__law_frac hr gl__law_frac (ja_cons (je_op o_mul (je_ix (je_v v0) je_int) (je_ix (je_v v1) je_int)) (ja_cons (je_op o_mul (je_ix (je_v v0) je_int) (je_ix (je_v v1) je_int)) ja_nil)))))
theorem g__law_mul (KX : K.In base) (GX : base.Ns mainGlobals mg) (c : He.SaysD fa fn K) (hxb : xb K = true) (hns : BaseOk K mg base) (htr : P.given.tree = none) : FnG P w K mg base "_law_mul" 2 PG.sp__law_mul_2 [] := by
  obtain ⟨fd, F⟩ := c.def_ 28 (d := dd__law_mul) rfl
  unfold PG.sp__law_mul_2
  exact mkG (N := (["_law_one", "_law_other"] : List Str)) false hns htr F (He.glo_ok KX GX (c.fact 28 (f := .glo "_law_mul") rfl)) sc__law_mul rfl rfl (fun _ _ _ _ _ _ us hl => match us, hl with | [_, _], _ => rfl) (fun X cdv A outer s H E hX hcd am => by subst hX; exact d__law_mul am sc__law_mul.nd rfl PassesOwn.never rfl rfl (fun _ => rfl) (g__law_frac (P := P) (w := w) KX GX c hxb hns htr))

theorem sc__law_div : FnScope (["_law_one", "_law_other"] : List Str) (["_law_one", "_law_other"] : List Str) (defScope s__law_div) := ⟨rfl, rfl, rfl, by decide +kernel, rfl, by decide +kernel, by decide +kernel⟩
theorem d__law_div {X : Cx} (am : Amb 1 X) (hN : X.N.Nodup) (hc : X.calm = true) (hxe : PassesOwn (model X.prog X.w) X.A X.env X.xe) (eN : X.N = (["_law_one", "_law_other"] : List Str)) (eS : X.env.scope = defScope s__law_div) (hfn : ∀ x, X.fn x = true) (G__law_frac : FnG X.prog X.w X.K X.mg X.base "_law_frac" 1 PG.sp__law_frac []) : JSs X (defBody s__law_div) PG.w__law_div := by
  have hr := am.rm
  have n0 : X.N[0]? = some ("_law_one" : Str) := by rw [eN]; rfl
  have v0 : SlotOk X 0 "_law_one" := slot_of eS eN hfn rfl (.inl rfl)
  have n1 : X.N[1]? = some ("_law_other" : Str) := by rw [eN]; rfl
  have v1 : SlotOk X 1 "_law_other" := slot_of eS eN hfn rfl (.inl rfl)
  have gl__law_frac : Gl X "_law_frac" := gl_of eS rfl
  exact (js_one (js_ret (je_cg G__law_frac hr gl__law_frac (ja_cons (je_op o_mul (je_ix (je_v v0) je_int) (je_ix (je_v v1) je_int)) (ja_cons (je_op o_mul (je_ix (je_v v0) je_int) (je_ix (je_v v1) je_int)) ja_nil)))))
theorem g__law_div (KX : K.In base) (GX : base.Ns mainGlobals mg) (c : He.SaysD fa fn K) (hxb : xb K = true) (hns : BaseOk K mg base) (htr : P.given.tree = none) : FnG P w K mg base "_law_div" 2 PG.sp__law_div [] := by
  obtain ⟨fd, F⟩ := c.def_ 29 (d := dd__law_div) rfl
  unfold PG.sp__law_div
  exact mkG (N := (["_law_one", "_law_other"] : List Str)) false hns htr F (He.glo_ok KX GX (c.fact 29 (f := .glo "_law_div") rfl)) sc__law_div rfl rfl (fun _ _ _ _ _ _ us hl => match us, hl with | [_, _], _ => rfl) (fun X cdv A outer s H E hX hcd am => by subst hX; exact d__law_div am sc__law_div.nd rfl PassesOwn.never rfl rfl (fun _ => rfl) (g__law_frac (P := P) (w := w) KX GX c hxb hns htr))

theorem sc__law_less : FnScope (["_law_one", "_law_other"] : List Str) (["_law_one", "_law_other"] : List Str) (defScope s__law_less) := ⟨rfl, rfl, rfl, by decide +kernel, rfl, by decide +kernel, by decide +kernel⟩
theorem d__law_less {X : Cx} (am : Amb 0 X) (hN : X.N.Nodup) (hc : X.calm = true) (hxe : PassesOwn (model X.prog X.w) X.A X.env X.xe) (eN : X.N = (["_law_one", "_law_other"] : List Str)) (eS : X.env.scope = defScope s__law_less) (hfn : ∀ x, X.fn x = true) : JSs X (defBody s__law_less) PG.w__law_less := by
  have hr := am.rm
  have n0 : X.N[0]? = some ("_law_one" : Str) := by rw [eN]; rfl
  have v0 : SlotOk X 0 "_law_one" := slot_of eS eN hfn rfl (.inl rfl)
  have n1 : X.N[1]? = some ("_law_other" : Str) := by rw [eN]; rfl
  have v1 : SlotOk X 1 "_law_other" := slot_of eS eN hfn rfl (.inl rfl)
  exact (js_one (js_ret (je_cmp o_lt (je_op o_mul (je_ix (je_v v0) je_int) (je_ix (je_v v1) je_int)) (je_op o_mul (je_ix (je_v v1) je_int) (je_ix (je_v v0) je_int)) (nomark _))))
theorem g__law_less (KX : K.In base) (GX : base.Ns mainGlobals mg) (c : He.SaysD fa fn K) (hxb : xb K = true) (hns : BaseOk K mg base) (htr : P.given.tree = none) : FnG P w K mg base "_law_less" 1 PG.sp__law_less [] := by
  obtain ⟨fd, F⟩ := c.def_ 30 (d := dd__law_less) rfl
  unfold PG.sp__law_less
  exact mkG (N := (["_law_one", "_law_other"] : List Str)) false hns htr F (He.glo_ok KX GX (c.fact 30 (f := .glo "_law_less") rfl)) sc__law_less rfl rfl (fun _ _ _ _ _ _ us hl => match us, hl with | [_, _], _ => rfl) (fun X cdv A outer s H E hX hcd am => by subst hX; exact d__law_less am sc__law_less.nd rfl PassesOwn.never rfl rfl (fun _ => rfl))

theorem sc__law_fraction : FnScope (["_law_box_here"] : List Str) (["_law_box_here"] : List Str) (defScope s__law_fraction) := ⟨rfl, rfl, rfl, by decide +kernel, rfl, by decide +kernel, by decide +kernel⟩
theorem d__law_fraction {X : Cx} (am : Amb 1 X) (hN : X.N.Nodup) (hc : X.calm = true) (hxe : PassesOwn (model X.prog X.w) X.A X.env X.xe) (eN : X.N = (["_law_box_here"] : List Str)) (eS : X.env.scope = defScope s__law_fraction) (hfn : ∀ x, X.fn x = true) (G__law_draw : FnG X.prog X.w X.K X.mg X.base "_law_draw" 1 PG.sp__law_draw_2 []) (G__law_frac : FnG X.prog X.w X.K X.mg X.base "_law_frac" 1 PG.sp__law_frac []) : JSs X (defBody s__law_fraction) PG.w__law_fraction := by
  have hr := am.rm
  have n0 : X.N[0]? = some ("_law_box_here" : Str) := by rw [eN]; rfl
  have v0 : SlotOk X 0 "_law_box_here" := slot_of eS eN hfn rfl (.inl rfl)
  have gl__law_draw : Gl X "_law_draw" := gl_of eS rfl
  have gl__law_frac : Gl X "_law_frac" := gl_of eS rfl
  exact (js_one (js_ret (je_cg G__law_frac hr gl__law_frac (ja_cons (je_op o_sub (je_cg G__law_draw hr gl__law_draw (ja_cons (je_v v0) (ja_cons je_int ja_nil))) je_int) (ja_cons (je_ix (je_lst (ja_cons je_int (ja_cons je_int (ja_cons je_int (ja_cons je_int ja_nil))))) (je_cg G__law_draw hr gl__law_draw (ja_cons (je_v v0) (ja_cons je_int ja_nil)))) ja_nil)))))
theorem g__law_fraction (KX : K.In base) (GX : base.Ns mainGlobals mg) (c : He.SaysD fa fn K) (hxb : xb K = true) (hns : BaseOk K mg base) (htr : P.given.tree = none) : FnG P w K mg base "_law_fraction" 2 PG.sp__law_fraction [] := by
  obtain ⟨fd, F⟩ := c.def_ 31 (d := dd__law_fraction) rfl
  unfold PG.sp__law_fraction
  exact mkG (N := (["_law_box_here"] : List Str)) false hns htr F (He.glo_ok KX GX (c.fact 31 (f := .glo "_law_fraction") rfl)) sc__law_fraction rfl rfl (fun _ _ _ _ _ _ us hl => match us, hl with | [_], _ => rfl) (fun X cdv A outer s H E hX hcd am => by subst hX; exact d__law_fraction am sc__law_fraction.nd rfl PassesOwn.never rfl rfl (fun _ => rfl) (g__law_draw (P := P) (w := w) KX GX c hxb hns htr) (g__law_frac (P := P) (w := w) KX GX c hxb hns htr))

theorem sc__law_start : FnScope (["_law_box_here", "_law_kind", "_law_trace", "_law_one", "_law_other", "_law_middle", "_law_third", "_law_value"] : List Str) (["_law_box_here"] : List Str) (defScope s__law_start) := ⟨rfl, rfl, rfl, by decide +kernel, rfl, by decide +kernel, by decide +kernel⟩
theorem d__law_start {X : Cx} (am : Amb 3 X) (hN : X.N.Nodup) (hc : X.calm = true) (hxe : PassesOwn (model X.prog X.w) X.A X.env X.xe) (eN : X.N = (["_law_box_here", "_law_kind", "_law_trace", "_law_one", "_law_other", "_law_middle", "_law_third", "_law_value"] : List Str)) (eS : X.env.scope = defScope s__law_start) (hfn : ∀ x, X.fn x = true) (G__law_draw : FnG X.prog X.w X.K X.mg X.base "_law_draw" 1 PG.sp__law_draw_2 []) (G__law_fraction : FnG X.prog X.w X.K X.mg X.base "_law_fraction" 2 PG.sp__law_fraction []) (G__law_frac : FnG X.prog X.w X.K X.mg X.base "_law_frac" 1 PG.sp__law_frac []) (G__law_neg : FnG X.prog X.w X.K X.mg X.base "_law_neg" 1 PG.sp__law_neg []) (G__law_mul : FnG X.prog X.w X.K X.mg X.base "_law_mul" 2 PG.sp__law_mul_2 []) (G__law_sub : FnG X.prog X.w X.K X.mg X.base "_law_sub" 3 PG.sp__law_sub_2 []) (G__law_add : FnG X.prog X.w X.K X.mg X.base "_law_add" 2 PG.sp__law_add_2 []) : JSs X (defBody s__law_start) PG.w__law_start := by
  have hr := am.rm
  have n0 : X.N[0]? = some ("_law_box_here" : Str) := by rw [eN]; rfl
  have v0 : SlotOk X 0 "_law_box_here" := slot_of eS eN hfn rfl (.inl rfl)
  have n1 : X.N[1]? = some ("_law_kind" : Str) := by rw [eN]; rfl
  have v1 : SlotOk X 1 "_law_kind" := slot_of eS eN hfn rfl (.inl rfl)
  have n2 : X.N[2]? = some ("_law_trace" : Str) := by rw [eN]; rfl
  have v2 : SlotOk X 2 "_law_trace" := slot_of eS eN hfn rfl (.inl rfl)
  have n3 : X.N[3]? = some ("_law_one" : Str) := by rw [eN]; rfl
  have v3 : SlotOk X 3 "_law_one" := slot_of eS eN hfn rfl (.inl rfl)
  have n4 : X.N[4]? = some ("_law_other" : Str) := by rw [eN]; rfl
  have v4 : SlotOk X 4 "_law_other" := slot_of eS eN hfn rfl (.inl rfl)
  have n5 : X.N[5]? = some ("_law_middle" : Str) := by rw [eN]; rfl
  have v5 : SlotOk X 5 "_law_middle" := slot_of eS eN hfn rfl (.inr rfl)
  have n6 : X.N[6]? = some ("_law_third" : Str) := by rw [eN]; rfl
  have v6 : SlotOk X 6 "_law_third" := slot_of eS eN hfn rfl (.inl rfl)
  have n7 : X.N[7]? = some ("_law_value" : Str) := by rw [eN]; rfl
  have gl__law_draw : Gl X "_law_draw" := gl_of eS rfl
  have gl__law_fraction : Gl X "_law_fraction" := gl_of eS rfl
  have gl__law_frac : Gl X "_law_frac" := gl_of eS rfl
  have gl__law_neg : Gl X "_law_neg" := gl_of eS rfl
  have gl__law_mul : Gl X "_law_mul" := gl_of eS rfl
  have gl__law_sub : Gl X "_law_sub" := gl_of eS rfl
  exact (js_cons (js_st hN v1 (je_cg G__law_draw hr gl__law_draw (ja_cons (je_v v0) (ja_cons je_int ja_nil))))
  (js_cons (js_st hN v2 (je_ix (je_lst (ja_cons (je_tup (ja_cons (je_neg je_int) (ja_cons je_int ja_nil))) (ja_cons (je_tup (ja_cons je_int (ja_cons je_int ja_nil))) (ja_cons (je_tup (ja_cons je_int (ja_cons je_int ja_nil))) (ja_cons (je_tup (ja_cons je_int (ja_cons je_int ja_nil))) (ja_cons (je_tup (ja_cons (je_neg je_int) (ja_cons je_int ja_nil))) (ja_cons (je_tup (ja_cons je_int (ja_cons je_int ja_nil))) (ja_cons (je_tup (ja_cons (je_neg je_int) (ja_cons je_int ja_nil))) (ja_cons (je_tup (ja_cons je_int (ja_cons je_int ja_nil))) (ja_cons (je_tup (ja_cons (je_neg je_int) (ja_cons je_int ja_nil))) (ja_cons (je_tup (ja_cons je_int (ja_cons je_int ja_nil))) (ja_cons (je_tup (ja_cons (je_neg je_int) (ja_cons je_int ja_nil))) (ja_cons (je_tup (ja_cons je_int (ja_cons je_int ja_nil))) (ja_cons (je_tup (ja_cons je_int (ja_cons je_int ja_nil))) ja_nil)))))))))))))) (je_cg G__law_draw hr gl__law_draw (ja_cons (je_v v0) (ja_cons je_int ja_nil)))))
  (js_cons (js_st hN v3 (je_cg G__law_fraction hr gl__law_fraction (ja_cons (je_v v0) ja_nil)))
  (js_cons (js_st hN v4 (je_cg G__law_fraction hr gl__law_fraction (ja_cons (je_v v0) ja_nil)))
  (js_cons (js_st hN v5 (je_cg G__law_neg hr gl__law_neg (ja_cons (je_cg G__law_frac hr gl__law_frac (ja_cons (je_op o_sub (je_cg G__law_draw hr gl__law_draw (ja_cons (je_v v0) (ja_cons je_int ja_nil))) je_int) (ja_cons je_int ja_nil))) ja_nil)))
  (js_cons (js_if (jt_cmp (o_eq hr) (je_v v1) je_int (nomark _))
  (js_one (js_st hN v4 (je_cg G__law_mul hr gl__law_mul (ja_cons (je_v v3) (ja_cons (je_ix (je_lst (ja_cons (je_tup (ja_cons je_int (ja_cons je_int ja_nil))) (ja_cons (je_tup (ja_cons je_int (ja_cons je_int ja_nil))) (ja_cons (je_tup (ja_cons (je_neg je_int) (ja_cons je_int ja_nil))) (ja_cons (je_tup (ja_cons (je_neg je_int) (ja_cons je_int ja_nil))) (ja_cons (je_tup (ja_cons (je_neg je_int) (ja_cons je_int ja_nil))) (ja_cons (je_tup (ja_cons je_int (ja_cons je_int ja_nil))) (ja_cons (je_tup (ja_cons je_int (ja_cons je_int ja_nil))) (ja_cons (je_tup (ja_cons (je_neg je_int) (ja_cons je_int ja_nil))) ja_nil))))))))) (je_cg G__law_draw hr gl__law_draw (ja_cons (je_v v0) (ja_cons je_int ja_nil)))) ja_nil)))))
  js_nil)
  (js_cons (js_if (jt_cmp (o_eq hr) (je_v v1) je_int (nomark _))
  (js_one (js_st hN v5 (je_cg G__law_neg hr gl__law_neg (ja_cons (je_v v3) ja_nil))))
  js_nil)
  (js_cons (js_if (jt_cmp (o_eq hr) (je_v v2) (je_tup (ja_cons je_int (ja_cons je_int ja_nil))) (nomark _))
  (js_cons (js_st hN v6 (je_cg G__law_fraction hr gl__law_fraction (ja_cons (je_v v0) ja_nil)))
  (js_one (js_ret (je_lst (ja_cons (je_v v2) (ja_cons (je_v v3) (ja_cons (je_v v4) (ja_cons (je_v v6) ja_nil))))))))
  js_nil)
  (js_cons (js_st hN v6 (je_cg G__law_sub hr gl__law_sub (ja_cons (je_cg G__law_mul hr gl__law_mul (ja_cons (je_v v2) (ja_cons (je_v v4) ja_nil))) (ja_cons (je_v v3) ja_nil))))
  (js_one (js_ret (je_op o_addA (je_lst (ja_cons (je_v v2) ja_nil)) (je_lc false (own' := [("_law_value", 7)]) (by decide) hc hN (ji_any (je_lst (ja_cons (je_v v3) (ja_cons (je_v v4) (ja_cons (je_v v6) ja_nil))))) (blk_of eN eS (own := [("_law_value", 7)]) (by decide +kernel)) (fun s H C cl fp => (jg_of (pg_name (i := 7) hN n7 (by first | exact .inl rfl | exact .inr rfl)))) (fun s H C cl fp => jts_nil) (fun s H C cl fp => (je_cg G__law_add hr (by rfl) (ja_cons (je_var 7 n7 (hv := (by first | exact Or.inl rfl | exact Or.inr (Or.inl rfl) | exact vis_free (by decide +kernel)))) (ja_cons (je_var 5 n5 (hv := vis_free (by decide +kernel))) ja_nil)))))))))))))))))
theorem g__law_start (KX : K.In base) (GX : base.Ns mainGlobals mg) (c : He.SaysD fa fn K) (hxb : xb K = true) (hns : BaseOk K mg base) (htr : P.given.tree = none) : FnG P w K mg base "_law_start" 4 PG.sp__law_start [] := by
  obtain ⟨fd, F⟩ := c.def_ 32 (d := dd__law_start) rfl
  unfold PG.sp__law_start
  exact mkG (N := (["_law_box_here", "_law_kind", "_law_trace", "_law_one", "_law_other", "_law_middle", "_law_third", "_law_value"] : List Str)) false hns htr F (He.glo_ok KX GX (c.fact 32 (f := .glo "_law_start") rfl)) sc__law_start rfl rfl (fun _ _ _ _ _ _ us hl => match us, hl with | [_], _ => rfl) (fun X cdv A outer s H E hX hcd am => by subst hX; exact d__law_start am sc__law_start.nd rfl PassesOwn.never rfl rfl (fun _ => rfl) (g__law_draw (P := P) (w := w) KX GX c hxb hns htr) (g__law_fraction (P := P) (w := w) KX GX c hxb hns htr) (g__law_frac (P := P) (w := w) KX GX c hxb hns htr) (g__law_neg (P := P) (w := w) KX GX c hxb hns htr) (g__law_mul (P := P) (w := w) KX GX c hxb hns htr) (g__law_sub (P := P) (w := w) KX GX c hxb hns htr) (g__law_add (P := P) (w := w) KX GX c hxb hns htr))

theorem sc_law : FnScope (["_law_script", "_law_box_here", "_law_trace", "_law_first", "_law_second", "_law_third", "_law_told", "_law_values", "_law_part", "_law_high", "_law_one", "_law_other", "_law_turn", "_law_middle", "_law_form", "_law_wide", "_law_room", "_law_beyond", "_law_value"] : List Str) (["_law_script"] : List Str) (defScope s_law) := ⟨rfl, rfl, rfl, by decide +kernel, rfl, by decide +kernel, by decide +kernel⟩
theorem d_law {X : Cx} (am : Amb 8 X) (hN : X.N.Nodup) (hc : X.calm = true) (hxe : PassesOwn (model X.prog X.w) X.A X.env X.xe) (eN : X.N = (["_law_script", "_law_box_here", "_law_trace", "_law_first", "_law_second", "_law_third", "_law_told", "_law_values", "_law_part", "_law_high", "_law_one", "_law_other", "_law_turn", "_law_middle", "_law_form", "_law_wide", "_law_room", "_law_beyond", "_law_value"] : List Str)) (eS : X.env.scope = defScope s_law) (hfn : ∀ x, X.fn x = true) (fr_range : X.mg "range" = none) (G__law_box : FnG X.prog X.w X.K X.mg X.base "_law_box" 2 PG.sp__law_box []) (G__law_start : FnG X.prog X.w X.K X.mg X.base "_law_start" 4 PG.sp__law_start []) (G_stays_below : FnG X.prog X.w X.K X.mg X.base "stays_below" 8 PG.sp_stays_below []) (G__law_mul : FnG X.prog X.w X.K X.mg X.base "_law_mul" 2 PG.sp__law_mul_2 []) (G__law_sub : FnG X.prog X.w X.K X.mg X.base "_law_sub" 3 PG.sp__law_sub_2 []) (G__law_add : FnG X.prog X.w X.K X.mg X.base "_law_add" 2 PG.sp__law_add_2 []) (G__law_div : FnG X.prog X.w X.K X.mg X.base "_law_div" 2 PG.sp__law_div []) (G__law_less : FnG X.prog X.w X.K X.mg X.base "_law_less" 1 PG.sp__law_less []) (G__law_same : FnG X.prog X.w X.K X.mg X.base "_law_same" 1 PG.sp__law_same []) : JSs X (defBody s_law) PG.w_law_38 := by
  have hr := am.rm
  have n0 : X.N[0]? = some ("_law_script" : Str) := by rw [eN]; rfl
  have v0 : SlotOk X 0 "_law_script" := slot_of eS eN hfn rfl (.inl rfl)
  have n1 : X.N[1]? = some ("_law_box_here" : Str) := by rw [eN]; rfl
  have v1 : SlotOk X 1 "_law_box_here" := slot_of eS eN hfn rfl (.inl rfl)
  have n2 : X.N[2]? = some ("_law_trace" : Str) := by rw [eN]; rfl
  have v2 : SlotOk X 2 "_law_trace" := slot_of eS eN hfn rfl (.inl rfl)
  have n3 : X.N[3]? = some ("_law_first" : Str) := by rw [eN]; rfl
  have v3 : SlotOk X 3 "_law_first" := slot_of eS eN hfn rfl (.inl rfl)
  have n4 : X.N[4]? = some ("_law_second" : Str) := by rw [eN]; rfl
  have v4 : SlotOk X 4 "_law_second" := slot_of eS eN hfn rfl (.inl rfl)
  have n5 : X.N[5]? = some ("_law_third" : Str) := by rw [eN]; rfl
  have v5 : SlotOk X 5 "_law_third" := slot_of eS eN hfn rfl (.inl rfl)
  have n6 : X.N[6]? = some ("_law_told" : Str) := by rw [eN]; rfl
  have v6 : SlotOk X 6 "_law_told" := slot_of eS eN hfn rfl (.inl rfl)
  have n7 : X.N[7]? = some ("_law_values" : Str) := by rw [eN]; rfl
  have v7 : SlotOk X 7 "_law_values" := slot_of eS eN hfn rfl (.inl rfl)
  have n8 : X.N[8]? = some ("_law_part" : Str) := by rw [eN]; rfl
  have v8 : SlotOk X 8 "_law_part" := slot_of eS eN hfn rfl (.inl rfl)
  have n9 : X.N[9]? = some ("_law_high" : Str) := by rw [eN]; rfl
  have v9 : SlotOk X 9 "_law_high" := slot_of eS eN hfn rfl (.inl rfl)
  have n10 : X.N[10]? = some ("_law_one" : Str) := by rw [eN]; rfl
  have v10 : SlotOk X 10 "_law_one" := slot_of eS eN hfn rfl (.inl rfl)
  have n11 : X.N[11]? = some ("_law_other" : Str) := by rw [eN]; rfl
  have v11 : SlotOk X 11 "_law_other" := slot_of eS eN hfn rfl (.inl rfl)
  have n12 : X.N[12]? = some ("_law_turn" : Str) := by rw [eN]; rfl
  have v12 : SlotOk X 12 "_law_turn" := slot_of eS eN hfn rfl (.inl rfl)
  have n13 : X.N[13]? = some ("_law_middle" : Str) := by rw [eN]; rfl
  have v13 : SlotOk X 13 "_law_middle" := slot_of eS eN hfn rfl (.inl rfl)
  have n14 : X.N[14]? = some ("_law_form" : Str) := by rw [eN]; rfl
  have v14 : SlotOk X 14 "_law_form" := slot_of eS eN hfn rfl (.inl rfl)
  have n15 : X.N[15]? = some ("_law_wide" : Str) := by rw [eN]; rfl
  have v15 : SlotOk X 15 "_law_wide" := slot_of eS eN hfn rfl (.inl rfl)
  have n16 : X.N[16]? = some ("_law_room" : Str) := by rw [eN]; rfl
  have v16 : SlotOk X 16 "_law_room" := slot_of eS eN hfn rfl (.inl rfl)
  have n17 : X.N[17]? = some ("_law_beyond" : Str) := by rw [eN]; rfl
  have v17 : SlotOk X 17 "_law_beyond" := slot_of eS eN hfn rfl (.inl rfl)
  have n18 : X.N[18]? = some ("_law_value" : Str) := by rw [eN]; rfl
  have gl__law_box : Gl X "_law_box" := gl_of eS rfl
  have gl__law_start : Gl X "_law_start" := gl_of eS rfl
  have gl_stays_below : Gl X "stays_below" := gl_of eS rfl
  have gl__law_mul : Gl X "_law_mul" := gl_of eS rfl
  have gl__law_sub : Gl X "_law_sub" := gl_of eS rfl
  have gl__law_add : Gl X "_law_add" := gl_of eS rfl
  have gl_range : Gl X "range" := gl_of eS rfl
  have gl__law_div : Gl X "_law_div" := gl_of eS rfl
  have gl__law_less : Gl X "_law_less" := gl_of eS rfl
  have gl__law_same : Gl X "_law_same" := gl_of eS rfl
  exact (js_cons (js_st hN v1 (je_cg G__law_box hr gl__law_box (ja_cons (je_v v0) (ja_cons je_int (ja_cons je_int ja_nil)))))
  (js_cons (js_asgL (je_cg G__law_start hr gl__law_start (ja_cons (je_v v1) ja_nil)) (pg_lst hc (pgs_cons (pg_v hN v2) (pgs_cons (pg_v hN v3) (pgs_cons (pg_v hN v4) (pgs_cons (pg_v hN v5) pgs_nil))))))
  (js_cons (js_st hN v6 (je_cg G_stays_below hr gl_stays_below (ja_cons (je_v v3) (ja_cons (je_v v4) (ja_cons (je_v v5) (ja_cons (je_v v2) ja_nil))))))
  (js_cons (js_st hN v7 (je_lst (ja_cons (je_v v3) (ja_cons (je_v v4) (ja_cons (je_v v5) ja_nil)))))
  (js_cons (js_st hN v8 (je_cg G__law_add hr gl__law_add (ja_cons (je_cg G__law_sub hr gl__law_sub (ja_cons (je_v v5) (ja_cons (je_cg G__law_mul hr gl__law_mul (ja_cons (je_v v2) (ja_cons (je_v v4) ja_nil))) ja_nil))) (ja_cons (je_v v3) ja_nil))))
  (js_cons (js_if (jt_cmp (o_eq hr) (je_v v2) (je_tup (ja_cons je_int (ja_cons je_int ja_nil))) (nomark _))
  (js_one (js_st hN v8 (je_cg G__law_sub hr gl__law_sub (ja_cons (je_cg G__law_sub hr gl__law_sub (ja_cons (je_v v5) (ja_cons (je_v v4) ja_nil))) (ja_cons (je_cg G__law_sub hr gl__law_sub (ja_cons (je_v v4) (ja_cons (je_v v3) ja_nil))) ja_nil)))))
  js_nil)
  (js_cons (js_st hN v9 (je_cmp (o_ne hr) (je_lc false (own' := [("_law_value", 18)]) (by decide) hc hN (ji_any (je_v v7)) (blk_of eN eS (own := [("_law_value", 18)]) (by decide +kernel)) (fun s H C cl fp => (jg_of (pg_name (i := 18) hN n18 (by first | exact .inl rfl | exact .inr rfl)))) (fun s H C cl fp => (jts_one (jt_cmp o_gt (je_ix (je_var 18 n18 (hv := (by first | exact Or.inl rfl | exact Or.inr (Or.inl rfl) | exact vis_free (by decide +kernel)))) je_int) je_int (nomark _)))) (fun s H C cl fp => je_int)) (je_lst ja_nil) (nomark _)))
  (js_cons (js_st hN v10 (je_v v4))
  (js_cons (js_st hN v11 (je_v v5))
  (js_cons (js_for hxe hc (ji_range1 gl_range fr_range (ja_cons je_int ja_nil)) (jg_of (pg_v hN v12))
  (js_cons (js_par (i := 10) (j := 11) hc hN n10 n11 (by decide) (by rw [eS]; rfl) (by rw [eS]; rfl) (ja_cons (je_v v11) (ja_cons (je_cg G__law_add hr gl__law_add (ja_cons (je_cg G__law_sub hr gl__law_sub (ja_cons (je_cg G__law_mul hr gl__law_mul (ja_cons (je_v v2) (ja_cons (je_v v11) ja_nil))) (ja_cons (je_v v10) ja_nil))) (ja_cons (je_v v8) ja_nil))) ja_nil)) (swap_ok (by rw [eS]; rfl) (by rw [eS]; rfl) (by rw [eS]; rfl) (by decide) rfl rfl rfl (by decide +kernel) (by decide +kernel)))
  (js_one (js_st hN v9 (je_or (je_v v9) (je_one (je_cmp o_gt (je_ix (je_v v11) je_int) je_int (nomark _))))))))
  (js_cons (js_if (jw_pt (jw_and (jt_cmp o_lt (je_op o_mul (je_ix (je_v v2) je_int) (je_ix (je_v v2) je_int)) (je_op o_mul (je_op o_mul je_int (je_ix (je_v v2) je_int)) (je_ix (je_v v2) je_int)) (nomark _)) (jw_and1 (jt_cmp o_gt (je_ix (je_v v2) je_int) je_int (nomark _)))))
  (js_cons (js_st hN v13 (je_cg G__law_div hr gl__law_div (ja_cons (je_v v8) (ja_cons (je_cg G__law_sub hr gl__law_sub (ja_cons (je_tup (ja_cons je_int (ja_cons je_int ja_nil))) (ja_cons (je_v v2) ja_nil))) ja_nil))))
  (js_cons (js_st hN v10 (je_cg G__law_sub hr gl__law_sub (ja_cons (je_v v3) (ja_cons (je_v v13) ja_nil))))
  (js_cons (js_st hN v11 (je_cg G__law_sub hr gl__law_sub (ja_cons (je_v v4) (ja_cons (je_v v13) ja_nil))))
  (js_cons (js_st hN v14 (je_cg G__law_add hr gl__law_add (ja_cons (je_cg G__law_sub hr gl__law_sub (ja_cons (je_cg G__law_mul hr gl__law_mul (ja_cons (je_v v10) (ja_cons (je_v v10) ja_nil))) (ja_cons (je_cg G__law_mul hr gl__law_mul (ja_cons (je_cg G__law_mul hr gl__law_mul (ja_cons (je_v v2) (ja_cons (je_v v10) ja_nil))) (ja_cons (je_v v11) ja_nil))) ja_nil))) (ja_cons (je_cg G__law_mul hr gl__law_mul (ja_cons (je_v v11) (ja_cons (je_v v11) ja_nil))) ja_nil))))
  (js_cons (js_st hN v15 (je_cg G__law_mul hr gl__law_mul (ja_cons (je_tup (ja_cons je_int (ja_cons je_int ja_nil))) (ja_cons (je_v v14) ja_nil))))
  (js_cons (js_st hN v16 (je_cg G__law_mul hr gl__law_mul (ja_cons (je_cg G__law_mul hr gl__law_mul (ja_cons (je_v v13) (ja_cons (je_v v13) ja_nil))) (ja_cons (je_cg G__law_sub hr gl__law_sub (ja_cons (je_tup (ja_cons je_int (ja_cons je_int ja_nil))) (ja_cons (je_cg G__law_mul hr gl__law_mul (ja_cons (je_v v2) (ja_cons (je_v v2) ja_nil))) ja_nil))) ja_nil))))
  (js_cons (js_st hN v17 (je_or (je_cmp o_gt (je_ix (je_v v13) je_int) je_int (nomark _)) (je_one (je_cg G__law_less hr gl__law_less (ja_cons (je_v v16) (ja_cons (je_v v15) ja_nil))))))
  (js_one (js_ret (je_and (je_cg G__law_same hr gl__law_same (ja_cons (je_v v6) (ja_cons (je_notV (je_v v17)) ja_nil))) (je_one (je_or (je_notV (je_v v9)) (je_one (je_v v17))))))))))))))
  js_nil)
  (js_one (js_ret (je_cg G__law_same hr gl__law_same (ja_cons (je_v v6) (ja_cons (je_notV (je_v v9)) ja_nil))))))))))))))))
theorem f_law (KX : K.In base) (GX : base.Ns mainGlobals mg) (c : He.SaysD fa fn K) (hxb : xb K = true) (hns : BaseOk K mg base) (htr : P.given.tree = none) {fd : FuncData} (F : FunD K dd_law.name dd_law.qual dd_law.params dd_law.body dd_law.scope (dd_law.dvs K) (dd_law.kws K) (He.fAd K dd_law.at_) fd) : Fnn P w K mg base CX0 9 (He.fAd K dd_law.at_) fd (["_law_script"] : List Str) (liftSp K PG.sp_law_38) := by
  unfold PG.sp_law_38
  exact mkF (N := (["_law_script", "_law_box_here", "_law_trace", "_law_first", "_law_second", "_law_third", "_law_told", "_law_values", "_law_part", "_law_high", "_law_one", "_law_other", "_law_turn", "_law_middle", "_law_form", "_law_wide", "_law_room", "_law_beyond", "_law_value"] : List Str)) false hns htr F sc_law rfl rfl (fun X cdv A outer s H E hX hcd am => by subst hX; exact d_law am sc_law.nd rfl PassesOwn.never rfl rfl (fun _ => rfl) (He.free_ok KX GX (c.fact 35 (f := .free "range") rfl)) (g__law_box (P := P) (w := w) KX GX c hxb hns htr) (g__law_start (P := P) (w := w) KX GX c hxb hns htr) (g_stays_below (P := P) (w := w) KX GX c hxb hns htr) (g__law_mul (P := P) (w := w) KX GX c hxb hns htr) (g__law_sub (P := P) (w := w) KX GX c hxb hns htr) (g__law_add (P := P) (w := w) KX GX c hxb hns htr) (g__law_div (P := P) (w := w) KX GX c hxb hns htr) (g__law_less (P := P) (w := w) KX GX c hxb hns htr) (g__law_same (P := P) (w := w) KX GX c hxb hns htr))

end

abbrev R : PySem.W.OpenRow := PySem.W.OpenLaw.row PySem.Challenge.rw_raytrain_k52_bounds_for_ever
abbrev hk : PySem.W.Hook := hookK 2 fa fn xb
def ob (s : PySem.W.SharedT) : AlR := obsK 2 fa fn xb (HandSHeadRun.getT s)
theorem ob_eq (s : PySem.W.SharedT) : ob s = hk.obs s.abs := obsK_eq (HandSHeadRun.getT_eq s)
def loose : List Str := (["__name__", "ZERO", "common_divisor", "fraction", "add", "negative", "subtract", "multiply", "divide", "sign", "compare", "is_less", "is_at_most", "TWO", "CYCLES", "polynomial_holds", "form_of", "cycle_holds", "ellipse_holds", "turning_holds", "line_holds", "growing_holds", "stays_below", "_law_cell", "_law_row", "_law_box", "_law_draw", "_law_same", "_law_frac", "_law_add"] : List Str) ++ (["_law_neg", "_law_sub", "_law_mul", "_law_div", "_law_less", "_law_fraction", "_law_start"] : List Str)
theorem runT (w : World) : HandSHeadRun.RunEq R (PySem.W.view R.prog [39]) hk ob 3000 loose (ovW w true) := by
  intro os
  kernel_rfl
theorem runF (w : World) : HandSHeadRun.RunEq R (PySem.W.view R.prog [39]) hk ob 3000 loose (ovW w false) := by
  intro os
  kernel_rfl
theorem run (w : World) : HandSHeadRun.RunEq R (PySem.W.view R.prog [39]) hk ob 3000 loose w := by
  have h : ∀ b, HandSHeadRun.RunEq R (PySem.W.view R.prog [39]) hk ob 3000 loose (ovW w b) := fun b => match b with
    | true => runT w
    | false => runF w
  have h := h (w.params.followText "special-get-raises")
  rw [ovW_eq] at h
  exact h
theorem facts {w : World} {K : PySem.W.Frag} {h : Heap} {mg : Str → Option Value} {f : Addr} (X : K.In h) (G : h.Ns mainGlobals mg) (hfa : mg ("law" : Str) = some (.ref f)) (c : He.SaysD fa fn K) (hxb : xb K = true) :
    ∃ fd : FuncData, (∀ (s : Shared) (v : Value), BindsTo s fd ⟨[v], []⟩ [("_law_script", v)]) ∧ ∀ base : Heap, K.In base → base.Ns mainGlobals mg → BaseOk K mg base → Fnn PySem.Challenge.rw_raytrain_k52_bounds_for_ever.prog w K mg base CX0 9 f fd ["_law_script"] (liftSp K PG.sp_law_38) := by
  obtain ⟨fd, F⟩ := c.def_ 33 (d := dd_law) rfl
  have e := hfa.symm.trans (He.glo_ok X G (c.fact 33 (f := .glo "law") rfl))
  cases e
  have b := FunD.bindsA (ps := ["_law_script"]) F fun _ _ _ _ _ _ us hl => match us, hl with | [_], _ => rfl
  exact ⟨fd, fun s v => b s [v] rfl, fun base KX GX hns => f_law KX GX c hxb hns rfl F⟩

end K52

open PySem PySem.W PySem.Calls PyProof.Rows
set_option maxHeartbeats 0 in
theorem K52.holds_of (law : RT.LawD 63 PG.sp_law_38) : PySem.Challenge.rw_raytrain_k52_bounds_for_ever.Holds := by
  w_on; o_law
  refine HandSHeadRun.head_any (r := OpenLaw.row PySem.Challenge.rw_raytrain_k52_bounds_for_ever) (q := view (OpenLaw.row PySem.Challenge.rw_raytrain_k52_bounds_for_ever).prog [39]) (H := K52.hk) (ob := K52.ob) (M := 3000) (loose := K52.loose) (d := HandSHeadRun.topDef (OpenLaw.row PySem.Challenge.rw_raytrain_k52_bounds_for_ever).prog 39) (kwd := []) K52.ob_eq
    (by kernel_rfl) (fun s => by kernel_rfl) K52.run (by kernel_rfl) (by kernel_rfl) (by kernel_rfl) (by rfl) (by first | assumption | decide +kernel) (by decide +kernel) ⟨rfl, rfl, rfl, rfl, rfl, by decide +kernel⟩ ?hw ?hc
  case hw => w_witness2
  case hc =>
    refine RT.walk_R (l := PySem.Challenge.rw_raytrain_k52_bounds_for_ever) (n := 63) (k := 9) (x := "_law_script") (sp := PG.sp_law_38) rfl (by decide) (by kernel_rfl) ⟨⟨rfl, by decide, by decide⟩, rfl, by decide⟩ (by kernel_rfl) law ?F
    intro w mg fa h Y G hmg0
    obtain ⟨K, KX, nl, tk, xbK, c⟩ := Y
    have hmg : mg ("law" : PySem.Str) = some (.ref fa) := by
      have e : (HandSHeadRun.topDef (OpenLaw.row PySem.Challenge.rw_raytrain_k52_bounds_for_ever).prog 39).name = ("law" : PySem.Str) := by kernel_rfl
      rw [← e]
      exact hmg0
    obtain ⟨fd, hb, hF⟩ := K52.facts (w := w) KX G hmg c xbK
    exact ⟨K, fd, KX, nl, tk, hb, hF⟩

theorem PySem.Challenge.cw_raytrain_k52_bounds_for_ever_holds : PySem.Challenge.rw_raytrain_k52_bounds_for_ever.Holds :=
  K52.holds_of PG.law_k52

