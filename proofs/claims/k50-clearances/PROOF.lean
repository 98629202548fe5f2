import PyProof.Rows.All
import Wide.All
import OpenK.AllK
import Wide.FinOn
import HandS.AnyAll
import HandS.GenOver
import PyProof.GenCompD
import HandS.Zip
import KE.GoesZip
import KE.GoesMore
import KE.GoesEnum
import HandS.ForMost
import HandS.ForExc
import HandS.Wide
import HandS.HeadHook1
import HandS.IsInst
import HandS.Deep
import HandS.TupAny
import HandS.TupLe
import HandS.More
import HandS.EndBits
import HandS.Defaults
import HandS.Head0
import HandS.Head1
import HandS.Head2
import HandS.HeadEnd
import HandS.HeadHook2
import HandS.HeadHook4
import KE.KNestM
import PyProof.ReprRoads
import HandS.Style
import KE.DataFind
import HandS.TryOnly
import HandS.Rev
import HandS.Conv
import PyProof.ListRange
import HandS.ExcIs
import HandS.ExcOwn
import HandS.WordsExc
import PySem.Challenge.RW_raytrain_k50_clearances
set_option Elab.async false
set_option linter.all false

set_option maxRecDepth 100000
set_option maxHeartbeats 4000000

namespace RG
open PySem PySem.Spec PyProof.Rows L2 GxR
section
variable {X : Cx} {pins : List (Addr × Obj)} {σ : L2.St} {H : Hp} {s : Shared}
def GR (X' : Cx) (pn : List (Addr × Obj)) (Qe : Hp → Prop) : GenEnd := fun _ _ r s₁ => r = .ok .next ∧ ∃ H4 σ4, Inv X' pn σ4 H4 s₁ ∧ Qe H4
def GY (X' : Cx) (pn : List (Addr × Obj)) (isAll : Bool) (Qx : Hp → Prop) : Protocol := fun _ _ v s kap => ∃ H4 σ4 b, v = .bool b ∧ Inv X' pn σ4 H4 s ∧
  if b = isAll then (∀ s'' : Shared, s''.heap = s.heap → s''.os = s.os → AllBare s''.gens → kap (.send .none) s'') else Qx H4
structure GSt (X' : Cx) (pn : List (Addr × Obj)) (isAll : Bool) (Qe Qx : Hp → Prop) (A0 : Around) (ag : Addr) (g n : Nat) (s : Shared) : Prop where
  isg : s.heap.IsGen ag g
  lim : s.heap.NoLimit
  bare : AllBare s.gens
  go : ∃ gs, s.gens[g]? = some gs ∧ gs.Goes (model X'.prog X'.w) A0 (GR X' pn Qe) (GY X' pn isAll Qx) n (.send .none) (s.setGen g .running)
end
end RG

set_option maxRecDepth 100000
set_option maxHeartbeats 4000000
namespace RG
open PySem PySem.Spec PyProof.Rows L2 GxR
section
variable {X : Cx} {pins : List (Addr × Obj)} {σ : L2.St} {H : Hp} {s : Shared}
structure GAo (A A' : Around) : Prop where
  hd : A'.handled = none
  dp : A'.depth ≤ A.depth + 1
  un : A'.units ≤ A.units + 8
  gd : A'.guards = A.guards
end
end RG

set_option maxRecDepth 100000
set_option maxHeartbeats 4000000

namespace RG
open PySem PySem.Spec PyProof.Rows L2
end RG

set_option maxRecDepth 100000
set_option maxHeartbeats 4000000

namespace RT
open PySem PySem.Spec PyProof.Rows L2

inductive Dt where
  | non | bl (b : Bool) | int (i : Int) | str (s : Str) | tup (ds : List Dt) | lst (ds : List Dt)

mutual
def Rep (K : PySem.W.Frag) (F : Hp) : Dt → V → Prop
  | .non, v => v = .non
  | .bl b, v => v = .bl b
  | .int i, v => v = .int i
  | .str s, v => v = .str s
  | .tup ds, v => ∃ a vs, v = .ref a ∧ SqT K F a vs ∧ Reps K F ds vs
  | .lst ds, v => ∃ a vs, v = .ref a ∧ Rd F a (.lst vs) ∧ Reps K F ds vs
def Reps (K : PySem.W.Frag) (F : Hp) : List Dt → List V → Prop
  | [], vs => vs = []
  | d :: ds, vs => ∃ v r, vs = v :: r ∧ Rep K F d v ∧ Reps K F ds r
end

theorem seqT_mono {K : PySem.W.Frag} {H H' : Hp} {a : Addr} {xs : List V} (e : Same H H') (h : SqT K H a xs) : SqT K H' a xs := by
  rcases h with (h | ⟨o, h⟩) | h
  · exact .inl (.inl (e _ _ h))
  · exact .inl (.inr ⟨o, e _ _ h⟩)
  · exact .inr h
theorem rd_mono {H H' : Hp} {a : Addr} {u : HO} (e : Same H H') (h : Rd H a u) : Rd H' a u := by
  rcases h with h | ⟨o, h⟩
  · exact .inl (e _ _ h)
  · exact .inr ⟨o, e _ _ h⟩
section
variable {K : PySem.W.Frag} {F F' : Hp}
mutual
theorem Rep.mono (e : Same F F') : ∀ {d : Dt} {v : V}, Rep K F d v → Rep K F' d v
  | .non, _, h => by simpa only [Rep] using h
  | .bl _, _, h => by simpa only [Rep] using h
  | .int _, _, h => by simpa only [Rep] using h
  | .str _, _, h => by simpa only [Rep] using h
  | .tup ds, v, h => by
    simp only [Rep] at h ⊢
    obtain ⟨a, vs, e1, s, r⟩ := h
    exact ⟨a, vs, e1, seqT_mono e s, Reps.mono e r⟩
  | .lst ds, v, h => by
    simp only [Rep] at h ⊢
    obtain ⟨a, vs, e1, s, r⟩ := h
    exact ⟨a, vs, e1, rd_mono e s, Reps.mono e r⟩
theorem Reps.mono (e : Same F F') : ∀ {ds : List Dt} {vs : List V}, Reps K F ds vs → Reps K F' ds vs
  | [], _, h => by simpa only [Reps] using h
  | d :: ds, vs, h => by
    simp only [Reps] at h ⊢
    obtain ⟨v, r, e1, h1, h2⟩ := h
    exact ⟨v, r, e1, Rep.mono e h1, Reps.mono e h2⟩
end
theorem Reps.nil : Reps K F [] [] := by simp only [Reps]
theorem Reps.cons {d : Dt} {v : V} {ds : List Dt} {vs : List V} (h : Rep K F d v) (t : Reps K F ds vs) : Reps K F (d :: ds) (v :: vs) := by
  simp only [Reps]
  exact ⟨v, vs, rfl, h, t⟩
theorem Reps.length : ∀ {ds : List Dt} {vs : List V}, Reps K F ds vs → ds.length = vs.length
  | [], vs, h => by
    simp only [Reps] at h
    rw [h]
    rfl
  | d :: ds, vs, h => by
    simp only [Reps] at h
    obtain ⟨v, r, rfl, _, h2⟩ := h
    rw [List.length_cons, List.length_cons, Reps.length h2]
theorem Reps.append : ∀ {ds es : List Dt} {vs us : List V}, Reps K F ds vs → Reps K F es us → Reps K F (ds ++ es) (vs ++ us)
  | [], es, vs, us, h, h' => by
    simp only [Reps] at h
    rw [h]
    exact h'
  | d :: ds, es, vs, us, h, h' => by
    simp only [Reps] at h
    obtain ⟨v, r, rfl, h1, h2⟩ := h
    exact .cons h1 (Reps.append h2 h')
theorem Reps.get : ∀ {ds : List Dt} {vs : List V} {i : Nat} {d : Dt}, Reps K F ds vs → ds[i]? = some d → ∃ v, vs[i]? = some v ∧ Rep K F d v
  | [], _, _, _, _, e => by simp at e
  | d :: ds, vs, 0, d', h, e => by
    simp only [Reps] at h
    obtain ⟨v, r, rfl, h1, h2⟩ := h
    cases e
    exact ⟨v, rfl, h1⟩
  | d :: ds, vs, i + 1, d', h, e => by
    simp only [Reps] at h
    obtain ⟨v, r, rfl, h1, h2⟩ := h
    exact Reps.get (i := i) h2 e
theorem Reps.take : ∀ {ds : List Dt} {vs : List V} (n : Nat), Reps K F ds vs → Reps K F (ds.take n) (vs.take n)
  | _, _, 0, _ => by
    rw [List.take_zero, List.take_zero]
    exact .nil
  | [], vs, n + 1, h => by
    simp only [Reps] at h
    rw [h]
    exact .nil
  | d :: ds, vs, n + 1, h => by
    simp only [Reps] at h
    obtain ⟨v, r, rfl, h1, h2⟩ := h
    exact .cons h1 (Reps.take n h2)
theorem Reps.drop : ∀ {ds : List Dt} {vs : List V} (n : Nat), Reps K F ds vs → Reps K F (ds.drop n) (vs.drop n)
  | _, _, 0, h => h
  | [], vs, n + 1, h => by
    simp only [Reps] at h
    rw [h]
    exact .nil
  | d :: ds, vs, n + 1, h => by
    simp only [Reps] at h
    obtain ⟨v, r, rfl, h1, h2⟩ := h
    exact Reps.drop n h2
theorem Reps.set {x : Dt} {u : V} (hx : Rep K F x u) : ∀ {ds : List Dt} {vs : List V} (n : Nat), Reps K F ds vs → Reps K F (ds.set n x) (vs.set n u)
  | [], vs, n, h => by
    simp only [Reps] at h
    rw [h]
    exact .nil
  | d :: ds, vs, 0, h => by
    simp only [Reps] at h
    obtain ⟨v, r, rfl, h1, h2⟩ := h
    exact .cons hx h2
  | d :: ds, vs, n + 1, h => by
    simp only [Reps] at h
    obtain ⟨v, r, rfl, h1, h2⟩ := h
    exact .cons h1 (Reps.set hx n h2)
end

inductive Vl where
  | d (x : Dt) | c (k : Nat)
inductive Cell where
  | lst (xs : List Dt) | dead
structure M where
  sl : List (Option Vl)
  st : List Cell
def RepV (K : PySem.W.Frag) (F : Hp) (A : List Addr) : Vl → V → Prop
  | .d x, v => Rep K F x v
  | .c k, v => ∃ a, A[k]? = some a ∧ v = .ref a
theorem RepV.mono {K : PySem.W.Frag} {F F' : Hp} {A A' : List Addr} (e : Same F F') (p : A <+: A') : ∀ {x : Vl} {v : V}, RepV K F A x v → RepV K F' A' x v
  | .d x, v, h => Rep.mono e h
  | .c k, v, h => by
    obtain ⟨a, h1, h2⟩ := h
    obtain ⟨t, rfl⟩ := p
    obtain ⟨hk, _⟩ := List.getElem?_eq_some_iff.mp h1
    exact ⟨a, by rw [List.getElem?_append_left hk]; exact h1, h2⟩

def gdefs : List (Str × Option Str) := [("triple_weights", none), ("is_certificate", none), ("contains_ray", none), ("is_empty", none), ("is_bounded", none), ("natural_of", none), ("fraction_of", none), ("parse_train", none)]
def tabK (K : PySem.W.Frag) (p : Str × Option Str) : Option (Addr × Addr) := match K.lookup (He.fAd K p) with
  | some ⟨_, _, .func fd, _⟩ => (match fd.code with
    | .ref c => (match K.lookup c with
      | some ⟨_, _, .fields vs, _⟩ => (match vs.getD 11 .none with
        | .ref P => some (c, P)
        | _ => none)
      | _ => none)
    | _ => none)
  | _ => none
def tabsK (K : PySem.W.Frag) : List (Addr × Addr) := gdefs.filterMap (tabK K)
theorem tab_upd {H : Hp} {P p : Addr} {o : HO} (t : GxR.TabG H P) (n : H p = none) : GxR.TabG (upd H p o) P := by
  obtain ⟨ps, h, ok⟩ := t
  exact ⟨ps, by rw [upd_ne (ne_of_none h n)]; exact h, ok⟩
theorem tab_ne {H : Hp} {P a : Addr} {vs : List V} (t : GxR.TabG H P) (n : H a = some (.lst vs)) : P ≠ a := fun z => by
  obtain ⟨ps, h, ok⟩ := t
  rw [z, n] at h
  cases h
theorem tab_lst {H : Hp} {P a : Addr} {vs : List V} {o : HO} (t : GxR.TabG H P) (n : H a = some (.lst vs)) : GxR.TabG (upd H a o) P := by
  have ne := tab_ne t n
  obtain ⟨ps, h, ok⟩ := t
  exact ⟨ps, by rw [upd_ne ne]; exact h, ok⟩
theorem tab_some {H : Hp} {P p : Addr} (t : GxR.TabG H P) (n : H p = none) : P ≠ p := fun z => by
  obtain ⟨ps, h, ok⟩ := t
  rw [z, n] at h
  cases h
structure Good (K : PySem.W.Frag) (W F : Hp) (A : List Addr) (m : M) (σ : L2.St) (H : Hp) : Prop where
  ext : Same F H
  hid : Same W H
  dj : ∀ a o, W a = some o → F a = none
  slen : m.sl.length = σ.length
  sl : ∀ (i : Nat) (v : Vl), m.sl[i]? = some (some v) → ∃ u : V, σ[i]? = some (some u) ∧ RepV K F A v u
  len : A.length = m.st.length
  st : ∀ (k : Nat) (xs : List Dt), m.st[k]? = some (Cell.lst xs) → ∃ (a : Addr) (vs : List V), A[k]? = some a ∧ H a = some (.lst vs) ∧ Reps K F xs vs ∧ F a = none ∧ W a = none
  nd : ∀ (j k : Nat) (xs ys : List Dt) (a : Addr), m.st[j]? = some (.lst xs) → m.st[k]? = some (.lst ys) → A[j]? = some a → A[k]? = some a → j = k
  tb : ∀ q ∈ tabsK K, GxR.TabG H q.2 ∧ F q.2 = none ∧ W q.2 = none

abbrev DE := M → (Vl → M → Prop) → Prop
abbrev DA := M → (List Vl → M → Prop) → Prop
abbrev DT := M → (Bool → M → Prop) → Prop
structure DEnds where
  nx : M → Prop
  rt : Vl → M → Prop
  bk : M → Prop
  ct : M → Prop
abbrev DS := DEnds → M → Prop

def After (K : PySem.W.Frag) (W F : Hp) (A : List Addr) (σ : L2.St) {α : Type} (Q : α → M → Prop) (R : Hp → List Addr → α → Hp → Prop) : Prop :=
  ∀ F' A' x m' H', Same F F' → A <+: A' → Good K W F' A' m' σ H' → Q x m' → R F' A' x H'
def lift (K : PySem.W.Frag) (t : DE) : TE := fun σ H Q => ∃ W F A m Qd, Good K W F A m σ H ∧ t m Qd ∧
  After K W F A σ Qd fun F' A' v H' => ∀ u, RepV K F' A' v u → Q u H'
def liftT (K : PySem.W.Frag) (t : DT) : TT := fun σ H Q => ∃ W F A m Qd, Good K W F A m σ H ∧ t m Qd ∧
  After K W F A σ Qd fun _ _ b H' => Q b H'
def RepVs (K : PySem.W.Frag) (F : Hp) (A : List Addr) : List Vl → List V → Prop
  | [], us => us = []
  | v :: vs, us => ∃ u r, us = u :: r ∧ RepV K F A v u ∧ RepVs K F A vs r
theorem RepVs.mono {K : PySem.W.Frag} {F F' : Hp} {A A' : List Addr} (e : Same F F') (p : A <+: A') : ∀ {x : List Vl} {v : List V}, RepVs K F A x v → RepVs K F' A' x v
  | [], _, h => h
  | _ :: _, _, h => by
    obtain ⟨u, r, e1, h1, h2⟩ := h
    exact ⟨u, r, e1, RepV.mono e p h1, RepVs.mono e p h2⟩
theorem RepVs.length {K : PySem.W.Frag} {F : Hp} {A : List Addr} : ∀ {x : List Vl} {v : List V}, RepVs K F A x v → x.length = v.length
  | [], _, h => by
    have e := h
    simp only [RepVs] at e
    rw [e]
    rfl
  | _ :: _, _, h => by
    obtain ⟨u, r, rfl, h1, h2⟩ := h
    rw [List.length_cons, List.length_cons, RepVs.length h2]
def liftA (K : PySem.W.Frag) (t : DA) : TA := fun σ H Q => ∃ W F A m Qd, Good K W F A m σ H ∧ t m Qd ∧
  After K W F A σ Qd fun F' A' vs H' => ∀ us, RepVs K F' A' vs us → Q us H'
structure Conts (K : PySem.W.Frag) (W F : Hp) (A : List Addr) (E : DEnds) (D : Ends) : Prop where
  nx : ∀ F' A' m' σ' H', Same F F' → A <+: A' → Good K W F' A' m' σ' H' → E.nx m' → D.nx σ' H'
  rt : ∀ F' A' m' σ' H' v u, Same F F' → A <+: A' → Good K W F' A' m' σ' H' → RepV K F' A' v u → E.rt v m' → D.rt u H'
  bk : ∀ F' A' m' σ' H', Same F F' → A <+: A' → Good K W F' A' m' σ' H' → E.bk m' → D.bk σ' H'
  ct : ∀ F' A' m' σ' H', Same F F' → A <+: A' → Good K W F' A' m' σ' H' → E.ct m' → D.ct σ' H'
theorem Conts.mono {K : PySem.W.Frag} {W F F' : Hp} {A A' : List Addr} {E : DEnds} {D : Ends} (c : Conts K W F A E D) (s : Same F F') (p : A <+: A') : Conts K W F' A' E D :=
  ⟨fun F2 A2 m σ H s2 p2 => c.nx F2 A2 m σ H (s.trans s2) (p.trans p2), fun F2 A2 m σ H v u s2 p2 => c.rt F2 A2 m σ H v u (s.trans s2) (p.trans p2),
    fun F2 A2 m σ H s2 p2 => c.bk F2 A2 m σ H (s.trans s2) (p.trans p2), fun F2 A2 m σ H s2 p2 => c.ct F2 A2 m σ H (s.trans s2) (p.trans p2)⟩
def liftS (K : PySem.W.Frag) (t : DS) : TS := fun D σ H => ∃ W F A m E, Good K W F A m σ H ∧ t E m ∧ Conts K W F A E D

theorem _root_.L2.PE.imp {X : Cx} {e : Expr} {t t' : TE} (h : PE X e t) (f : ∀ σ H Q, t' σ H Q → t σ H Q) : PE X e t' := ⟨fun pins s σ H Q I q => h.run pins s σ H Q I (f _ _ _ q)⟩
theorem _root_.L2.PT.imp {X : Cx} {e : Expr} {t t' : TT} (h : PT X e t) (f : ∀ σ H Q, t' σ H Q → t σ H Q) : PT X e t' := ⟨fun pins s σ H Q I q => h.run pins s σ H Q I (f _ _ _ q)⟩
theorem _root_.L2.PW.imp {X : Cx} {e : Expr} {t t' : TT} (h : PW X e t) (f : ∀ σ H Q, t' σ H Q → t σ H Q) : PW X e t' := ⟨fun w pins s σ H Q I q => h.run w pins s σ H Q I (f _ _ _ q)⟩
theorem _root_.L2.PA.imp {X : Cx} {e : List Expr} {t t' : TA} (h : PA X e t) (f : ∀ σ H Q, t' σ H Q → t σ H Q) : PA X e t' := ⟨fun p pins s σ H Q I q => h.run p pins s σ H Q I (f _ _ _ q)⟩
theorem _root_.L2.PS.imp {X : Cx} {e : Stmt} {t t' : TS} (h : PS X e t) (f : ∀ D σ H, t' D σ H → t D σ H) : PS X e t' := ⟨fun pins s σ H D I q => h.run pins s σ H D I (f _ _ _ q)⟩
theorem _root_.L2.PSs.imp {X : Cx} {e : List Stmt} {t t' : TS} (h : PSs X e t) (f : ∀ D σ H, t' D σ H → t D σ H) : PSs X e t' := ⟨fun pins s σ H D I q => h.run pins s σ H D I (f _ _ _ q)⟩

abbrev JE (X : Cx) (e : Expr) (t : DE) : Prop := PE X e (lift X.K t)
abbrev JT (X : Cx) (e : Expr) (t : DT) : Prop := PT X e (liftT X.K t)
abbrev JW (X : Cx) (e : Expr) (t : DT) : Prop := PW X e (liftT X.K t)
abbrev JA (X : Cx) (e : List Expr) (t : DA) : Prop := PA X e (liftA X.K t)
abbrev JS (X : Cx) (e : Stmt) (t : DS) : Prop := PS X e (liftS X.K t)
abbrev JSs (X : Cx) (e : List Stmt) (t : DS) : Prop := PSs X e (liftS X.K t)

section
variable {K : PySem.W.Frag} {W F F' : Hp} {A A' : List Addr} {m : M} {σ : L2.St} {H H' : Hp}
theorem pre_refl {α : Type} (l : List α) : l <+: l := ⟨[], List.append_nil l⟩
theorem pre_trans {α : Type} {a b c : List α} (h : a <+: b) (h' : b <+: c) : a <+: c := List.IsPrefix.trans h h'
theorem same_upd {p : Addr} {o : HO} (h : H p = none) : Same H (upd H p o) := fun b x e => by
  rw [upd_ne (ne_of_none e h)]
  exact e
theorem same_upd2 {p : Addr} {o : HO} (e : Same F H) : Same (upd F p o) (upd H p o) := fun b x q => by
  by_cases hb : b = p
  · subst hb
    rw [upd_same] at q ⊢
    exact q
  · rw [upd_ne hb] at q ⊢
    exact e _ _ q
theorem Good.laid {p : Addr} {o : HO} (G : Good K W F A m σ H) (n : H p = none) : Good K W (upd F p o) A m σ (upd H p o) := by
  have nF : F p = none := G.ext.free n
  have s : Same F (upd F p o) := same_upd nF
  refine ⟨same_upd2 G.ext, G.hid.trans (same_upd n), fun b x e => by rw [upd_ne (ne_of_none (G.hid _ _ e) n)]; exact G.dj b x e, G.slen, fun i v e => ?_, G.len, fun k xs e => ?_, G.nd, fun q hq => ?_⟩
  · obtain ⟨u, h1, h2⟩ := G.sl i v e
    exact ⟨u, h1, RepV.mono s (pre_refl _) h2⟩
  · obtain ⟨a, vs, h1, h2, h3, h4, h5⟩ := G.st k xs e
    have ne : a ≠ p := ne_of_none h2 n
    exact ⟨a, vs, h1, by rw [upd_ne ne]; exact h2, Reps.mono s h3, by rw [upd_ne ne]; exact h4, h5⟩
  · obtain ⟨t1, t2, t3⟩ := G.tb q hq
    exact ⟨tab_upd t1 n, by rw [upd_ne (tab_some t1 n)]; exact t2, t3⟩
theorem Good.own {p : Addr} {xs : List Dt} {vs : List V} (G : Good K W F A m σ H) (n : H p = none) (r : Reps K F xs vs) : Good K W F (A ++ [p]) ⟨m.sl, m.st ++ [.lst xs]⟩ σ (upd H p (.lst vs)) := by
  have pr : A <+: A ++ [p] := ⟨[p], rfl⟩
  have at_ : ∀ k, k < m.st.length → (A ++ [p])[k]? = A[k]? := fun k hk => List.getElem?_append_left (by rw [G.len]; exact hk)
  have lst_ : (A ++ [p])[m.st.length]? = some p := by rw [← G.len]; simp
  have old : ∀ k, k < m.st.length → (m.st ++ [Cell.lst xs])[k]? = m.st[k]? := fun k hk => List.getElem?_append_left hk
  have new : ∀ k c, ¬ k < m.st.length → (m.st ++ [Cell.lst xs])[k]? = some c → k = m.st.length ∧ c = .lst xs := fun k c hk e => by
    have hk2 := (List.getElem?_eq_some_iff.mp e).1
    rw [List.length_append, List.length_singleton] at hk2
    have ek : k = m.st.length := by omega
    subst ek
    rw [List.getElem?_append_right (Nat.le_refl _), Nat.sub_self] at e
    exact ⟨rfl, (Option.some.inj e).symm⟩
  refine ⟨G.ext.trans (same_upd n), G.hid.trans (same_upd n), G.dj, G.slen, fun i v e => ?_, by simp [G.len], fun k ys e => ?_, fun j k ys zs a e1 e2 h1 h2 => ?_, fun q hq => ⟨tab_upd (G.tb q hq).1 n, (G.tb q hq).2⟩⟩
  · obtain ⟨u, h1, h2⟩ := G.sl i v e
    exact ⟨u, h1, RepV.mono (Same.refl _) pr h2⟩
  · by_cases hk : k < m.st.length
    · have e' : m.st[k]? = some (.lst ys) := (old k hk).symm.trans e
      obtain ⟨a, ws, h1, h2, h3, h4⟩ := G.st k ys e'
      exact ⟨a, ws, (at_ k hk).trans h1, by rw [upd_ne (ne_of_none h2 n)]; exact h2, h3, h4⟩
    · obtain ⟨ek, ec⟩ := new k _ hk e
      subst ek
      cases ec
      exact ⟨p, vs, lst_, upd_same, r, G.ext.free n, G.hid.free n⟩
  · have nA : ∀ k zs, k < m.st.length → (m.st ++ [Cell.lst xs])[k]? = some (.lst zs) → (A ++ [p])[k]? = some p → False := fun k zs hk e h => by
      obtain ⟨a', _, q1, q2, _⟩ := G.st k zs ((old k hk).symm.trans e)
      rw [at_ k hk, q1] at h
      cases h
      rw [n] at q2
      cases q2
    by_cases hj : j < m.st.length
    · by_cases hk : k < m.st.length
      · exact G.nd j k ys zs a ((old j hj).symm.trans e1) ((old k hk).symm.trans e2) ((at_ j hj).symm.trans h1) ((at_ k hk).symm.trans h2)
      · obtain ⟨ek, _⟩ := new k _ hk e2
        subst ek
        rw [lst_] at h2
        cases h2
        exact (nA j ys hj e1 h1).elim
    · obtain ⟨ej, _⟩ := new j _ hj e1
      subst ej
      by_cases hk : k < m.st.length
      · rw [lst_] at h1
        cases h1
        exact (nA k zs hk e2 h2).elim
      · obtain ⟨ek, _⟩ := new k _ hk e2
        exact ek.symm
theorem Good.store {i : Nat} {v : Vl} {u : V} (G : Good K W F A m σ H) (r : RepV K F A v u) : Good K W F A ⟨m.sl.set i (some v), m.st⟩ (σ.set i (some u)) H := by
  refine ⟨G.ext, G.hid, G.dj, by rw [List.length_set, List.length_set, G.slen], fun j w e => ?_, G.len, G.st, G.nd, G.tb⟩
  have e' : (m.sl.set i (some v))[j]? = some (some w) := e
  rw [List.getElem?_set] at e' ⊢
  by_cases hj : i = j
  · rw [if_pos hj] at e' ⊢
    by_cases hl : i < m.sl.length
    · rw [if_pos hl] at e'
      rw [if_pos (by rw [← G.slen]; exact hl)]
      cases e'
      exact ⟨u, rfl, r⟩
    · rw [if_neg hl] at e'
      cases e'
  · rw [if_neg hj] at e' ⊢
    exact G.sl j w e'
theorem Good.write {k : Nat} {xs ys : List Dt} {a : Addr} {ws : List V} (G : Good K W F A m σ H) (e : m.st[k]? = some (.lst xs)) (ha : A[k]? = some a) (r : Reps K F ys ws) :
    Good K W F A ⟨m.sl, m.st.set k (.lst ys)⟩ σ (upd H a (.lst ws)) := by
  obtain ⟨a', vs, h1, h2, h3, h4, h5⟩ := G.st k xs e
  rw [ha] at h1
  cases h1
  have hk : k < m.st.length := (List.getElem?_eq_some_iff.mp e).1
  have sp : ∀ j c, (m.st.set k (Cell.lst ys))[j]? = some c → (j = k ∧ c = .lst ys) ∨ (j ≠ k ∧ m.st[j]? = some c) := fun j c q => by
    rw [List.getElem?_set] at q
    by_cases hj : k = j
    · rw [if_pos hj, if_pos hk] at q
      exact .inl ⟨hj.symm, (Option.some.inj q).symm⟩
    · rw [if_neg hj] at q
      exact .inr ⟨fun z => hj z.symm, q⟩
  refine ⟨fun b x q => ?_, fun b x q => ?_, G.dj, G.slen, G.sl, by rw [List.length_set]; exact G.len, fun j zs q => ?_, fun i j zs ts b q1 q2 p1 p2 => ?_, fun q hq => ⟨tab_lst (G.tb q hq).1 h2, (G.tb q hq).2⟩⟩
  · have nb : b ≠ a := fun z => by
      rw [z, h4] at q
      cases q
    rw [upd_ne nb]
    exact G.ext _ _ q
  · have nb : b ≠ a := fun z => by
      rw [z, h5] at q
      cases q
    rw [upd_ne nb]
    exact G.hid _ _ q
  · rcases sp j _ q with ⟨rfl, ec⟩ | ⟨hj, q'⟩
    · cases ec
      exact ⟨a, ws, ha, upd_same, r, h4, h5⟩
    · obtain ⟨b, us, p1, p2, p3, p4⟩ := G.st j zs q'
      have nb : b ≠ a := fun z => hj (G.nd j k zs xs a q' e (by rw [← z]; exact p1) ha)
      exact ⟨b, us, p1, by rw [upd_ne nb]; exact p2, p3, p4⟩
  · have i' : ∃ zs', m.st[i]? = some (.lst zs') := by
      rcases sp i _ q1 with ⟨rfl, _⟩ | ⟨_, q'⟩
      · exact ⟨_, e⟩
      · exact ⟨_, q'⟩
    have j' : ∃ zs', m.st[j]? = some (.lst zs') := by
      rcases sp j _ q2 with ⟨rfl, _⟩ | ⟨_, q'⟩
      · exact ⟨_, e⟩
      · exact ⟨_, q'⟩
    obtain ⟨z1, i'⟩ := i'
    obtain ⟨z2, j'⟩ := j'
    exact G.nd i j z1 z2 b i' j' p1 p2
def frz (k : Nat) (xs : List Dt) (m : M) : M := ⟨m.sl.map fun o => match o with
  | some (.c j) => if j = k then some (.d (.lst xs)) else some (.c j)
  | o => o, m.st.set k .dead⟩
theorem Good.freeze {k : Nat} {xs : List Dt} (G : Good K W F A m σ H) (e : m.st[k]? = some (.lst xs)) : ∃ F' a, Same F F' ∧ A[k]? = some a ∧ Rep K F' (.lst xs) (.ref a) ∧ Good K W F' A (frz k xs m) σ H := by
  obtain ⟨a, vs, h1, h2, h3, h4, h5⟩ := G.st k xs e
  have s : Same F (upd F a (.lst vs)) := same_upd h4
  have hk : k < m.st.length := (List.getElem?_eq_some_iff.mp e).1
  have rp : Rep K (upd F a (.lst vs)) (.lst xs) (.ref a) := by
    simp only [Rep]
    exact ⟨a, vs, rfl, Rd.of upd_same, Reps.mono s h3⟩
  have sp : ∀ j zs, (m.st.set k Cell.dead)[j]? = some (.lst zs) → j ≠ k ∧ m.st[j]? = some (.lst zs) := fun j c q => by
    rw [List.getElem?_set] at q
    by_cases hj : k = j
    · rw [if_pos hj, if_pos hk] at q
      cases q
    · rw [if_neg hj] at q
      exact ⟨fun z => hj z.symm, q⟩
  refine ⟨upd F a (.lst vs), a, s, h1, rp, ⟨fun b x q => ?_, G.hid, fun b x q => by rw [upd_ne (fun z => by rw [z, h5] at q; cases q)]; exact G.dj b x q, by unfold frz; rw [List.length_map]; exact G.slen, fun i v q => ?_, by unfold frz; rw [List.length_set]; exact G.len, fun j zs q => ?_, fun i j zs ts b q1 q2 p1 p2 => ?_, fun q hq => ⟨(G.tb q hq).1, by rw [upd_ne (tab_ne (G.tb q hq).1 h2)]; exact (G.tb q hq).2.1, (G.tb q hq).2.2⟩⟩⟩
  · by_cases hb : b = a
    · subst hb
      rw [upd_same] at q
      cases q
      exact h2
    · rw [upd_ne hb] at q
      exact G.ext _ _ q
  · unfold frz at q
    rw [List.getElem?_map] at q
    cases r : m.sl[i]? with
    | none =>
      rw [r] at q
      cases q
    | some o =>
      rw [r] at q
      cases o with
      | none => cases q
      | some w =>
        obtain ⟨u, p1, p2⟩ := G.sl i w r
        cases w with
        | d x =>
          cases q
          exact ⟨u, p1, Rep.mono s p2⟩
        | c j =>
          by_cases hj : j = k
          · subst hj
            have q' : some (some (if j = j then Vl.d (.lst xs) else .c j)) = some (some v) := by
              rw [if_pos rfl]
              simpa using q
            rw [if_pos rfl] at q'
            cases q'
            obtain ⟨b, p3, rfl⟩ := p2
            rw [h1] at p3
            cases p3
            exact ⟨_, p1, rp⟩
          · have q' : v = .c j := by
              have : (if j = k then some (Vl.d (.lst xs)) else some (.c j)) = some v := Option.some.inj q
              rw [if_neg hj] at this
              exact (Option.some.inj this).symm
            subst q'
            exact ⟨u, p1, p2⟩
  · obtain ⟨hj, q'⟩ := sp j zs q
    obtain ⟨b, us, p1, p2, p3, p4⟩ := G.st j zs q'
    have nb : b ≠ a := fun z => hj (G.nd j k zs xs a q' e (by rw [← z]; exact p1) h1)
    exact ⟨b, us, p1, p2, Reps.mono s p3, by rw [upd_ne nb]; exact p4.1, p4.2⟩
  · obtain ⟨_, q1'⟩ := sp i zs q1
    obtain ⟨_, q2'⟩ := sp j ts q2
    exact G.nd i j zs ts b q1' q2' p1 p2
def view (m : M) : Vl → Option Dt
  | .d x => some x
  | .c k => match m.st[k]? with
    | some (.lst xs) => some (.lst xs)
    | _ => none
def RepB (K : PySem.W.Frag) (F H : Hp) : Dt → V → Prop
  | .lst ds, u => ∃ a vs, u = .ref a ∧ Rd H a (.lst vs) ∧ Reps K F ds vs
  | x, u => Rep K F x u
theorem Good.view {v : Vl} {u : V} {x : Dt} (G : Good K W F A m σ H) (r : RepV K F A v u) (e : view m v = some x) : RepB K F H x u := by
  cases v with
  | d y =>
    cases e
    cases x with
    | lst ds =>
      have r' : Rep K F (.lst ds) u := r
      simp only [Rep] at r'
      obtain ⟨a, vs, e1, s, q⟩ := r'
      exact ⟨a, vs, e1, rd_mono G.ext s, q⟩
    | _ => exact r
  | c k =>
    obtain ⟨a, h1, rfl⟩ := r
    unfold RT.view at e
    cases q : m.st[k]? with
    | none =>
      simp only [q] at e
      cases e
    | some c =>
      cases c with
      | dead =>
        simp only [q] at e
        cases e
      | lst xs =>
        simp only [q] at e
        cases e
        obtain ⟨a', vs, h1', h2, h3, _⟩ := G.st k xs q
        rw [h1] at h1'
        cases h1'
        exact ⟨a, vs, rfl, Rd.of h2, h3⟩
end
end RT

set_option maxRecDepth 100000
set_option maxHeartbeats 4000000
namespace RT
open PySem PySem.Spec PyProof.Rows L2

def onV (m : M) (v : Vl) (k : Dt → Prop) : Prop := match view m v with
  | some x => k x
  | none => False
theorem onV_elim {m : M} {v : Vl} {k : Dt → Prop} (h : onV m v k) : ∃ x, view m v = some x ∧ k x := by
  unfold onV at h
  split at h
  · exact ⟨_, by assumption, h⟩
  · exact h.elim
def onD (v : Vl) (k : Dt → Prop) : Prop := match v with
  | .d x => k x
  | .c _ => False
theorem onD_elim {v : Vl} {k : Dt → Prop} (h : onD v k) : ∃ x, v = .d x ∧ k x := by
  cases v with
  | d x => exact ⟨x, rfl, h⟩
  | c k => exact h.elim

def onC (st : List Cell) (k : Nat) (P : List Dt → Prop) : Prop := match st[k]? with
  | some (.lst xs) => P xs
  | _ => False
theorem onC_elim {st : List Cell} {k : Nat} {P : List Dt → Prop} (h : onC st k P) : ∃ xs, st[k]? = some (.lst xs) ∧ P xs := by
  unfold onC at h
  split at h
  · exact ⟨_, by assumption, h⟩
  · exact h.elim
theorem onC_mk {st : List Cell} {k : Nat} {P : List Dt → Prop} {xs : List Dt} (e : st[k]? = some (.lst xs)) (h : P xs) : onC st k P := by
  unfold onC
  rw [e]
  exact h
section
variable {X : Cx}

def dVar (i : Nat) : DE := fun m Q => match m.sl[i]? with
  | some (some v) => Q v m
  | _ => False
theorem dVar_elim {i : Nat} {m : M} {Q : Vl → M → Prop} (h : dVar i m Q) : ∃ v, m.sl[i]? = some (some v) ∧ Q v m := by
  unfold dVar at h
  split at h
  · exact ⟨_, by assumption, h⟩
  · exact h.elim
theorem je_var (i : Nat) {x : Str} {pos : Pos} (hN : X.N[i]? = some x := by rfl) (hv : Vis X.env.scope x := by first | exact Or.inl rfl | exact Or.inr (Or.inl rfl) | exact Or.inr (Or.inr rfl)) (hd : (x == ("__debug__" : Str)) = false := by decide)
    (hcd : (x == ("__classdict__" : Str)) = false := by decide) : JE X (.Name x pos) (dVar i) :=
  (pv i hN hv hd hcd).imp fun σ H Q ⟨W, F, A, m, Qd, G, h, c⟩ => by
    obtain ⟨v, e, q⟩ := dVar_elim h
    obtain ⟨u, e', r⟩ := G.sl i v e
    exact ⟨u, e', c F A v m H (Same.refl _) (pre_refl _) G q u r⟩
def dFz (i : Nat) : DE := fun m Q => match m.sl[i]? with
  | some (some (.d x)) => Q (.d x) m
  | some (some (.c k)) => onC m.st k fun xs => Q (.d (.lst xs)) (frz k xs m)
  | _ => False
theorem je_fz (i : Nat) {x : Str} {pos : Pos} (hN : X.N[i]? = some x := by rfl) (hv : Vis X.env.scope x := by first | exact Or.inl rfl | exact Or.inr (Or.inl rfl) | exact Or.inr (Or.inr rfl)) (hd : (x == ("__debug__" : Str)) = false := by decide)
    (hcd : (x == ("__classdict__" : Str)) = false := by decide) : JE X (.Name x pos) (dFz i) :=
  (pv i hN hv hd hcd).imp fun σ H Q ⟨W, F, A, m, Qd, G, h, c⟩ => by
    unfold dFz at h
    split at h
    · rename_i x e
      obtain ⟨u, e', r⟩ := G.sl i _ e
      exact ⟨u, e', c F A _ m H (Same.refl _) (pre_refl _) G h u r⟩
    · rename_i k e
      obtain ⟨xs, es, h⟩ := onC_elim h
      obtain ⟨u, e', r⟩ := G.sl i _ e
      obtain ⟨F', a, s, ha, rp, G'⟩ := G.freeze es
      obtain ⟨b, hb, rfl⟩ := r
      rw [ha] at hb
      cases hb
      exact ⟨_, e', c F' A _ _ H s (pre_refl _) G' h _ rp⟩
    · exact h.elim

def dC (x : Dt) : DE := fun m Q => Q (.d x) m
theorem lift_c {K : PySem.W.Frag} {x : Dt} {v : V} (r : ∀ F, Rep K F x v) {σ : L2.St} {H : Hp} {Q : VK} (h : lift K (dC x) σ H Q) : tC v σ H Q := by
  obtain ⟨W, F, A, m, Qd, G, h, c⟩ := h
  exact c F A _ m H (Same.refl _) (pre_refl _) G h v (r F)
theorem rep_int {K : PySem.W.Frag} {F : Hp} {i : Int} : Rep K F (.int i) (.int i) := by simp only [Rep]
theorem rep_bl {K : PySem.W.Frag} {F : Hp} {b : Bool} : Rep K F (.bl b) (.bl b) := by simp only [Rep]
theorem rep_non {K : PySem.W.Frag} {F : Hp} : Rep K F .non .non := by simp only [Rep]
theorem rep_str {K : PySem.W.Frag} {F : Hp} {s : Str} : Rep K F (.str s) (.str s) := by simp only [Rep]
theorem je_int {i j pos} : JE X (.Constant (.int i) j pos) (dC (.int i)) := pe_int.imp fun _ _ _ h => lift_c (fun _ => rep_int) h
theorem je_bl {b j pos} : JE X (.Constant (.bool b) j pos) (dC (.bl b)) := pe_bl.imp fun _ _ _ h => lift_c (fun _ => rep_bl) h
theorem je_non {j pos} : JE X (.Constant .none j pos) (dC .non) := pe_non.imp fun _ _ _ h => lift_c (fun _ => rep_non) h
theorem je_str {x j pos} : JE X (.Constant (.str x) j pos) (dC (.str x)) := pe_str.imp fun _ _ _ h => lift_c (fun _ => rep_str) h
structure GlobD (X : Cx) (x : Str) (d : Dt) : Prop where
  gl : Gl X x
  val : ∃ (v : V) (u : Value), X.mg x = some u ∧ RelV v u ∧ ∀ F, Rep X.K F d v
  nd : (x == ("__debug__" : Str)) = false
theorem je_glob {x : Str} {d : Dt} {pos : Pos} (g : GlobD X x d) : JE X (.Name x pos) (dC d) := by
  obtain ⟨hg, ⟨v, u, hm, r, rp⟩, nd⟩ := g
  exact (pe_glob hg hm r nd).imp fun _ _ _ h => lift_c rp h

abbrev DR2 := Dt → Dt → (Dt → Prop) → Prop
def dOp (r : DR2) (ta tb : DE) : DE := fun m Q => ta m fun v m1 => tb m1 fun w m2 => onV m2 v fun x => onV m2 w fun y => r x y fun z => Q (.d z) m2
def ValD (K : PySem.W.Frag) (R : V → V → Hp → VK → Prop) (r : DR2) : Prop :=
  ∀ (W F : Hp) (A : List Addr) (m : M) (σ : L2.St) (H : Hp) (x y : Dt) (u v : V) (P : Dt → Prop) (Q : VK), Good K W F A m σ H → RepB K F H x u → RepB K F H y v → r x y P →
    (∀ F' H' z w, Same F F' → Good K W F' A m σ H' → Rep K F' z w → P z → Q w H') → R u v H Q
def OpD (X : Cx) (f : Value → Value → Sem Value) (r : DR2) : Prop := ∃ R : R2, OpR X f R ∧ ValD X.K R r
theorem lift_op {K : PySem.W.Frag} {R : R2} {r : DR2} {ta tb : DE} (hR : ValD K R r) {σ : L2.St} {H : Hp} {Q : VK} (h : lift K (dOp r ta tb) σ H Q) : tOp R (lift K ta) (lift K tb) σ H Q := by
  obtain ⟨W, F, A, m, Qd, G, h, c⟩ := h
  refine ⟨W, F, A, m, _, G, h, fun F1 A1 v m1 H1 s1 p1 G1 q1 u r1 => ⟨W, F1, A1, m1, _, G1, q1, fun F2 A2 w m2 H2 s2 p2 G2 q2 u2 r2 => ?_⟩⟩
  obtain ⟨x, ex, q2⟩ := onV_elim q2
  obtain ⟨y, ey, q2⟩ := onV_elim q2
  exact hR W F2 A2 m2 σ H2 x y u u2 _ Q G2 (G2.view (RepV.mono s2 p2 r1) ex) (G2.view r2 ey) q2 fun F' H' z w s' G' rz pz => c F' A2 (.d z) m2 H' (s1.trans (s2.trans s')) (pre_trans p1 p2) G' pz w rz
theorem je_op {a b : Expr} {ta tb : DE} {op : Operator} {r : DR2} {pos : Pos} (ho : OpD X (binaryOp op) r) (ha : JE X a ta) (hb : JE X b tb) : JE X (.BinOp a op b pos) (dOp r ta tb) := by
  obtain ⟨R, hO, hR⟩ := ho
  exact (pe_op hO ha hb).imp fun _ _ _ h => lift_op hR h
theorem je_cmp {a b : Expr} {ta tb : DE} {op : CmpOp} {r : DR2} {pos : Pos} (ho : OpD X (compareOp op) r) (ha : JE X a ta) (hb : JE X b tb) (hm : behindInMarks op b = false) : JE X (.Compare a [op] [b] pos) (dOp r ta tb) := by
  obtain ⟨R, hO, hR⟩ := ho
  exact (pe_cmpR hO ha hb hm).imp fun _ _ _ h => lift_op hR h

def dTest (t : DE) : DT := fun m Q => t m fun v m1 => match v with
  | .d (.bl b) => Q b m1
  | _ => False
theorem dTest_elim {v : Vl} {k : Bool → Prop} (h : match v with
  | .d (.bl b) => k b
  | _ => False) : ∃ b, v = .d (.bl b) ∧ k b := by
  split at h
  · exact ⟨_, rfl, h⟩
  · exact h.elim
theorem jt_cmp {a b : Expr} {ta tb : DE} {op : CmpOp} {r : DR2} {pos : Pos} (ho : OpD X (compareOp op) r) (ha : JE X a ta) (hb : JE X b tb) (hm : behindInMarks op b = false) : JT X (.Compare a [op] [b] pos) (dTest (dOp r ta tb)) := by
  obtain ⟨R, hO, hR⟩ := ho
  refine (pt_cmpR hO ha hb hm).imp fun σ H Q h => ?_
  obtain ⟨W, F, A, m, Qd, G, h, c⟩ := h
  refine lift_op hR ⟨W, F, A, m, _, G, h, fun F1 A1 v m1 H1 s1 p1 G1 q1 u r1 => ?_⟩
  obtain ⟨k, rfl, q⟩ := dTest_elim q1
  have r1' : Rep X.K F1 (.bl k) u := r1
  simp only [Rep] at r1'
  exact ⟨k, r1', c F1 A1 k m1 H1 s1 p1 G1 q⟩

def rInt (C : Int → Int → Prop) (g : Int → Int → Dt) : DR2 := fun x y P => match x, y with
  | .int i, .int j => C i j ∧ P (g i j)
  | _, _ => False
theorem rInt_elim {C : Int → Int → Prop} {g : Int → Int → Dt} {x y : Dt} {P : Dt → Prop} (h : rInt C g x y P) : ∃ i j, x = .int i ∧ y = .int j ∧ C i j ∧ P (g i j) := by
  unfold rInt at h
  split at h
  · exact ⟨_, _, rfl, rfl, h⟩
  · exact h.elim
theorem repB_int {K : PySem.W.Frag} {F H : Hp} {i : Int} {u : V} (h : RepB K F H (.int i) u) : u = .int i := by
  have h' : Rep K F (.int i) u := h
  simpa only [Rep] using h'
theorem repB_str {K : PySem.W.Frag} {F H : Hp} {i : Str} {u : V} (h : RepB K F H (.str i) u) : u = .str i := by
  have h' : Rep K F (.str i) u := h
  simpa only [Rep] using h'
theorem repB_bl {K : PySem.W.Frag} {F H : Hp} {i : Bool} {u : V} (h : RepB K F H (.bl i) u) : u = .bl i := by
  have h' : Rep K F (.bl i) u := h
  simpa only [Rep] using h'
theorem repB_non {K : PySem.W.Frag} {F H : Hp} {u : V} (h : RepB K F H .non u) : u = .non := by
  have h' : Rep K F .non u := h
  simpa only [Rep] using h'
theorem opD_int {f : Value → Value → Sem Value} {C : Int → Int → Prop} {g : Int → Int → V} {gd : Int → Int → Dt} (h : OpR X f (rI C g)) (hg : ∀ F i j, Rep X.K F (gd i j) (g i j)) : OpD X f (rInt C gd) :=
  ⟨_, h, fun W F A m σ H x y u v P Q G rx ry q c => by
    obtain ⟨i, j, rfl, rfl, hc, q⟩ := rInt_elim q
    exact ⟨i, j, repB_int rx, repB_int ry, hc, c F H _ _ (Same.refl _) G (hg F i j) q⟩⟩
theorem opD_int0 {f : Value → Value → Sem Value} {g : Int → Int → V} {gd : Int → Int → Dt} (h : OpR X f (rI0 g)) (hg : ∀ F i j, Rep X.K F (gd i j) (g i j)) : OpD X f (rInt (fun _ _ => True) gd) :=
  ⟨_, h, fun W F A m σ H x y u v P Q G rx ry q c => by
    obtain ⟨i, j, rfl, rfl, hc, q⟩ := rInt_elim q
    exact ⟨i, j, repB_int rx, repB_int ry, c F H _ _ (Same.refl _) G (hg F i j) q⟩⟩
theorem o_sub : OpD X (binaryOp .Sub) (rInt (fun _ _ => True) fun i j => .int (i - j)) := opD_int0 op_sub fun _ _ _ => rep_int
def MulOk (i j : Int) : Prop := i.natAbs.log2 + j.natAbs.log2 < 67108864
theorem MulOk.ok {i j : Int} (h : MulOk i j) : IntMulOk i j := by
  have b : ∀ x : Int, Builtin.Int.intBits x ≤ x.natAbs.log2 + 1 := fun x => by
    unfold Builtin.Int.intBits
    split <;> omega
  have h1 := b i
  have h2 := b j
  have h3 : i.natAbs.log2 + j.natAbs.log2 < 67108864 := h
  have e : bitsLine = 134217728 := by decide
  unfold IntMulOk
  intro z
  rw [Bool.and_eq_true] at z
  have z2 := z.2
  unfold Builtin.Int.intTooBig at z2
  have z3 := of_decide_eq_true z2
  rw [e] at z3
  omega
theorem o_mul : OpD X (binaryOp .Mult) (rInt MulOk fun i j => .int (i * j)) := opD_int (C := MulOk) (opI fun _ _ _ _ _ _ _ hc q => mul_int q hc.ok) fun _ _ _ => rep_int
theorem o_mod : OpD X (binaryOp .Mod) (rInt (fun _ j => j ≠ 0) fun i j => .int (i.fmod j)) := opD_int op_modN fun _ _ _ => rep_int
theorem o_pow : OpD X (binaryOp .Pow) (rInt CPow fun i j => .int (i ^ j.toNat)) := opD_int op_pow fun _ _ _ => rep_int
theorem o_lt : OpD X (compareOp .Lt) (rInt (fun _ _ => True) fun i j => .bl (decide (i < j))) := opD_int0 op_lt fun _ _ _ => rep_bl
theorem o_gt : OpD X (compareOp .Gt) (rInt (fun _ _ => True) fun i j => .bl (decide (j < i))) := opD_int0 op_gt fun _ _ _ => rep_bl
theorem o_ge : OpD X (compareOp .GtE) (rInt (fun _ _ => True) fun i j => .bl (decide (j ≤ i))) := opD_int0 op_ge fun _ _ _ => rep_bl
end
end RT

set_option maxRecDepth 100000
set_option maxHeartbeats 4000000
namespace RT
open PySem PySem.Spec PyProof.Rows L2
section
variable {X : Cx}

theorem rv_int {K : PySem.W.Frag} {F : Hp} {A : List Addr} {i : Int} : RepV K F A (.d (.int i)) (.int i) := rep_int (K := K) (F := F)
theorem rv_bl {K : PySem.W.Frag} {F : Hp} {A : List Addr} {b : Bool} : RepV K F A (.d (.bl b)) (.bl b) := rep_bl (K := K) (F := F)
theorem rv_non {K : PySem.W.Frag} {F : Hp} {A : List Addr} : RepV K F A (.d .non) .non := rep_non (K := K) (F := F)

def Pyl (X : Cx) : Prop := ∀ s : Shared, (∀ b o, X.base.get? b = some o → s.heap.get? b = some o) → PySem.PylongRoom (model X.prog X.w) X.A s
def rFdiv : R2 := rI (fun _ j => j ≠ 0) fun i j => .int (i.fdiv j)
theorem op_fdivA (hp : Pyl X) : OpR X (binaryOp .FloorDiv) rFdiv := by
  intro pins s σ H x y v u Q I rx ry h
  obtain ⟨i, j, rfl, rfl, hc, q⟩ := h
  obtain ⟨t, rfl⟩ := rx
  obtain ⟨t', rfl⟩ := ry
  exact floordiv_int hc ⟨.int _, H, I.tok _, ⟨_, rfl⟩, q⟩ (.inr (hp s I.bk))
theorem o_fdiv (hp : Pyl X) : OpD X (binaryOp .FloorDiv) (rInt (fun _ j => j ≠ 0) fun i j => .int (i.fdiv j)) := opD_int (op_fdivA hp) fun _ _ _ => rep_int

def rU (f : Dt → (Dt → Prop) → Prop) (t : DE) : DE := fun m Q => t m fun v m1 => onD v fun x => f x fun z => Q (.d z) m1
def rNeg : Dt → (Dt → Prop) → Prop := fun x P => match x with
  | .int i => P (.int (-i))
  | _ => False
theorem je_neg {a : Expr} {ta : DE} {pos : Pos} (ha : JE X a ta) : JE X (.UnaryOp .USub a pos) (rU rNeg ta) := by
  refine (pe_un un_neg ha).imp fun σ H Q h => ?_
  obtain ⟨W, F, A, m, Qd, G, h, c⟩ := h
  refine ⟨W, F, A, m, _, G, h, fun F1 A1 v m1 H1 s1 p1 G1 q1 u r1 => ?_⟩
  obtain ⟨x, rfl, q⟩ := onD_elim q1
  cases x with
  | int i =>
    have e : u = .int i := repB_int (H := H1) r1
    exact ⟨i, e, c F1 A1 _ m1 H1 s1 p1 G1 q _ rv_int⟩
  | _ => exact (show False from q).elim

theorem repB_tup {K : PySem.W.Frag} {F H : Hp} {ds : List Dt} {u : V} (h : RepB K F H (.tup ds) u) : ∃ a vs, u = .ref a ∧ SqT K F a vs ∧ Reps K F ds vs := by
  have h' : Rep K F (.tup ds) u := h
  simpa only [Rep] using h'

def truD : Dt → (Bool → Prop) → Prop := fun x P => match x with
  | .non => P false
  | .bl b => P b
  | .int i => P (i != 0)
  | .str y => y.length ≤ sizeLine ∧ P ((y.length : Int) != 0)
  | .lst xs => P (!xs.isEmpty)
  | .tup xs => P (!xs.isEmpty)
def dTru (t : DE) : DT := fun m Q => t m fun v m1 => onV m1 v fun x => truD x fun b => Q b m1
theorem empty_eq {K : PySem.W.Frag} {F : Hp} {ds : List Dt} {vs : List V} (r : Reps K F ds vs) : ds.isEmpty = vs.isEmpty := by
  have e := r.length
  cases ds <;> cases vs <;> first | rfl | (simp at e)
theorem jt_tru {a : Expr} {ta : DE} (ha : JE X a ta) (he : ∀ whole, isTrue a X.env whole = (do let v ← whole; standAt a.pos; holding [v] (truthy v)) := by intro _; rfl) : JT X a (dTru ta) := by
  refine (pt_truth ha he).imp fun σ H Q h => ?_
  obtain ⟨W, F, A, m, Qd, G, h, c⟩ := h
  refine ⟨W, F, A, m, _, G, h, fun F1 A1 v m1 H1 s1 p1 G1 q1 u r1 => ?_⟩
  obtain ⟨x, ex, q⟩ := onV_elim q1
  have rb := G1.view r1 ex
  cases x with
  | non =>
    rw [repB_non rb]
    exact ⟨false, rfl, c F1 A1 _ m1 H1 s1 p1 G1 q⟩
  | bl b =>
    rw [repB_bl rb]
    exact ⟨b, rfl, c F1 A1 _ m1 H1 s1 p1 G1 q⟩
  | int i =>
    rw [repB_int rb]
    exact ⟨_, rfl, c F1 A1 _ m1 H1 s1 p1 G1 q⟩
  | str y =>
    rw [repB_str rb]
    exact ⟨_, ⟨q.1, rfl⟩, c F1 A1 _ m1 H1 s1 p1 G1 q.2⟩
  | lst xs =>
    obtain ⟨a, vs, rfl, hs, rs⟩ := rb
    have q' : Qd (!xs.isEmpty) m1 := q
    rw [empty_eq rs] at q'
    exact ⟨_, .inl ⟨vs, .inl hs, rfl⟩, c F1 A1 _ m1 H1 s1 p1 G1 q'⟩
  | tup xs =>
    obtain ⟨a, vs, rfl, hs, rs⟩ := repB_tup rb
    have hs := seqT_mono G1.ext hs
    have q' : Qd (!xs.isEmpty) m1 := q
    rw [empty_eq rs] at q'
    exact ⟨_, .inr (.inl ⟨vs, hs, rfl⟩), c F1 A1 _ m1 H1 s1 p1 G1 q'⟩
def dAnd (t u : DT) : DT := fun m Q => t m fun b m1 => if b = true then u m1 Q else Q false m1
def dOr (t u : DT) : DT := fun m Q => t m fun b m1 => if b = true then Q true m1 else u m1 Q
def dNot (t : DT) : DT := fun m Q => t m fun b m1 => Q (!b) m1
variable {a b : Expr} {rest : List Expr} {pos : Pos} {t u : DT} {ta tb : DE}
theorem jw_and1 (h : JT X a t) : JW X (.BoolOp .And [a] pos) t := pw_and1 h
theorem jw_or1 (h : JT X a t) : JW X (.BoolOp .Or [a] pos) t := pw_or1 h
theorem jw_and (h : JT X a t) (h' : JW X (.BoolOp .And (b :: rest) pos) u) : JW X (.BoolOp .And (a :: b :: rest) pos) (dAnd t u) := by
  refine (pw_and h h').imp fun σ H Q hh => ?_
  obtain ⟨W, F, A, m, Qd, G, h, c⟩ := hh
  refine ⟨W, F, A, m, _, G, h, fun F1 A1 v m1 H1 s1 p1 G1 q1 => ?_⟩
  cases v with
  | true => exact ⟨W, F1, A1, m1, _, G1, q1, fun F2 A2 w m2 H2 s2 p2 G2 q2 => c F2 A2 w m2 H2 (s1.trans s2) (pre_trans p1 p2) G2 q2⟩
  | false => exact c F1 A1 false m1 H1 s1 p1 G1 q1
theorem jw_or (h : JT X a t) (h' : JW X (.BoolOp .Or (b :: rest) pos) u) : JW X (.BoolOp .Or (a :: b :: rest) pos) (dOr t u) := by
  refine (pw_or h h').imp fun σ H Q hh => ?_
  obtain ⟨W, F, A, m, Qd, G, h, c⟩ := hh
  refine ⟨W, F, A, m, _, G, h, fun F1 A1 v m1 H1 s1 p1 G1 q1 => ?_⟩
  cases v with
  | true => exact c F1 A1 true m1 H1 s1 p1 G1 q1
  | false => exact ⟨W, F1, A1, m1, _, G1, q1, fun F2 A2 w m2 H2 s2 p2 G2 q2 => c F2 A2 w m2 H2 (s1.trans s2) (pre_trans p1 p2) G2 q2⟩
theorem jw_pt {e : Expr} (h : JW X e t) : JT X e t := PW.pt h
theorem jt_not (h : JT X a t) : JT X (.UnaryOp .Not a pos) (dNot t) := by
  refine (pt_not h).imp fun σ H Q hh => ?_
  obtain ⟨W, F, A, m, Qd, G, h, c⟩ := hh
  exact ⟨W, F, A, m, _, G, h, fun F1 A1 v m1 H1 s1 p1 G1 q1 => c F1 A1 _ m1 H1 s1 p1 G1 q1⟩

def dAndV (t u : DE) : DE := fun m Q => t m fun v m1 => match v with
  | .d (.bl b) => if b = true then u m1 Q else Q (.d (.bl false)) m1
  | _ => False
theorem je_one {op} (h : JE X a ta) : JE X (.BoolOp op [a] pos) ta := pe_one h
theorem je_and (h : JE X a ta) (h' : JE X (.BoolOp .And (b :: rest) pos) tb) : JE X (.BoolOp .And (a :: b :: rest) pos) (dAndV ta tb) := by
  refine (pe_and h h').imp fun σ H Q hh => ?_
  obtain ⟨W, F, A, m, Qd, G, h, c⟩ := hh
  refine ⟨W, F, A, m, _, G, h, fun F1 A1 v m1 H1 s1 p1 G1 q1 u r1 => ?_⟩
  obtain ⟨b, rfl, q⟩ := dTest_elim q1
  rw [repB_bl (H := H1) r1]
  refine ⟨b, rfl, ?_⟩
  cases b with
  | true => exact ⟨W, F1, A1, m1, _, G1, q, fun F2 A2 w m2 H2 s2 p2 G2 q2 => c F2 A2 w m2 H2 (s1.trans s2) (pre_trans p1 p2) G2 q2⟩
  | false => exact c F1 A1 _ m1 H1 s1 p1 G1 q _ rv_bl

def isN : Dt → Bool
  | .non => true
  | _ => false
theorem isN_of {K : PySem.W.Frag} {F : Hp} {x : Dt} {u : V} (r : Rep K F x u) : decide (u = .non) = isN x := by
  cases x with
  | non =>
    simp only [Rep] at r
    rw [r]
    rfl
  | tup ds =>
    simp only [Rep] at r
    obtain ⟨a, vs, rfl, _⟩ := r
    rfl
  | lst ds =>
    simp only [Rep] at r
    obtain ⟨a, vs, rfl, _⟩ := r
    rfl
  | _ =>
    simp only [Rep] at r
    rw [r]
    rfl
def dIsN (t : DE) : DE := fun m Q => t m fun v m1 => onD v fun x => Q (.d (.bl (isN x))) m1
def dNotN (t : DE) : DE := fun m Q => t m fun v m1 => onD v fun x => Q (.d (.bl (!isN x))) m1
theorem lift_isN {σ : L2.St} {H : Hp} {Q : VK} (h : lift X.K (dIsN ta) σ H Q) : tIsN (lift X.K ta) σ H Q := by
  obtain ⟨W, F, A, m, Qd, G, h, c⟩ := h
  refine ⟨W, F, A, m, _, G, h, fun F1 A1 v m1 H1 s1 p1 G1 q1 u r1 => ?_⟩
  obtain ⟨x, rfl, q⟩ := onD_elim q1
  rw [isN_of r1]
  exact c F1 A1 _ m1 H1 s1 p1 G1 q _ rv_bl
theorem lift_notN {σ : L2.St} {H : Hp} {Q : VK} (h : lift X.K (dNotN ta) σ H Q) : tNotN (lift X.K ta) σ H Q := by
  obtain ⟨W, F, A, m, Qd, G, h, c⟩ := h
  refine ⟨W, F, A, m, _, G, h, fun F1 A1 v m1 H1 s1 p1 G1 q1 u r1 => ?_⟩
  obtain ⟨x, rfl, q⟩ := onD_elim q1
  rw [isN_of r1]
  exact c F1 A1 _ m1 H1 s1 p1 G1 q _ rv_bl
theorem je_notN {j pos'} (ha : JE X a ta) : JE X (.Compare a [.IsNot] [.Constant .none j pos'] pos) (dNotN ta) := (pe_cmp (pc_notN ha)).imp fun _ _ _ h => lift_notN h
theorem jt_of_cmp {op : CmpOp} {t : DE} {te : TE} (hc : PC X op a b te) (hl : ∀ σ H Q, lift X.K t σ H Q → te σ H Q) (h1 : behindInMarks op b = false := by first | exact nobehind _ (by decide) (by decide) | rfl) : JT X (.Compare a [op] [b] pos) (dTest t) := by
  refine (pt_cmp hc h1).imp fun σ H Q h => ?_
  obtain ⟨W, F, A, m, Qd, G, h, c⟩ := h
  refine hl σ H _ ⟨W, F, A, m, _, G, h, fun F1 A1 v m1 H1 s1 p1 G1 q1 u r1 => ?_⟩
  obtain ⟨k, rfl, q⟩ := dTest_elim q1
  exact ⟨k, repB_bl (H := H1) r1, c F1 A1 k m1 H1 s1 p1 G1 q⟩
theorem jt_isN {j pos'} (ha : JE X a ta) : JT X (.Compare a [.Is] [.Constant .none j pos'] pos) (dTest (dIsN ta)) := jt_of_cmp (pc_isN ha) fun _ _ _ h => lift_isN h
theorem jt_notN {j pos'} (ha : JE X a ta) : JT X (.Compare a [.IsNot] [.Constant .none j pos'] pos) (dTest (dNotN ta)) := jt_of_cmp (pc_notN ha) fun _ _ _ h => lift_notN h

def dNil : DA := fun m Q => Q [] m
def dCons (t : DE) (ts : DA) : DA := fun m Q => t m fun v m1 => ts m1 fun vs m2 => Q (v :: vs) m2
theorem ja_nil : JA X [] dNil := pa_nil.imp fun σ H Q ⟨W, F, A, m, Qd, G, h, c⟩ => c F A [] m H (Same.refl _) (pre_refl _) G h [] rfl
theorem ja_cons {e : Expr} {es : List Expr} {ts : DA} (h : JE X e ta) (hs : JA X es ts) (he : starEach (e :: es) X.env = (false, eval e X.env) :: starEach es X.env := by rfl) : JA X (e :: es) (dCons ta ts) := by
  refine (pa_cons h hs he).imp fun σ H Q hh => ?_
  obtain ⟨W, F, A, m, Qd, G, h, c⟩ := hh
  refine ⟨W, F, A, m, _, G, h, fun F1 A1 v m1 H1 s1 p1 G1 q1 u r1 => ⟨W, F1, A1, m1, _, G1, q1, fun F2 A2 vs m2 H2 s2 p2 G2 q2 us r2 => ?_⟩⟩
  exact c F2 A2 (v :: vs) m2 H2 (s1.trans s2) (pre_trans p1 p2) G2 q2 (u :: us) ⟨u, us, rfl, RepV.mono s2 p2 r1, r2⟩
def onDs : List Vl → (List Dt → Prop) → Prop
  | [], k => k []
  | .d x :: r, k => onDs r fun xs => k (x :: xs)
  | .c _ :: _, _ => False
theorem onDs_elim : ∀ {vs : List Vl} {k : List Dt → Prop}, onDs vs k → ∃ xs, vs = xs.map .d ∧ k xs
  | [], _, h => ⟨[], rfl, h⟩
  | .d x :: r, k, h => by
    obtain ⟨xs, e, q⟩ := onDs_elim (vs := r) h
    exact ⟨x :: xs, by rw [e]; rfl, q⟩
  | .c _ :: _, _, h => h.elim
theorem reps_of {K : PySem.W.Frag} {F : Hp} {A : List Addr} : ∀ {xs : List Dt} {us : List V}, RepVs K F A (xs.map .d) us → Reps K F xs us
  | [], us, h => by
    have e : us = [] := h
    rw [e]
    exact .nil
  | x :: xs, us, h => by
    obtain ⟨u, r, rfl, h1, h2⟩ := h
    exact .cons h1 (reps_of h2)

def dTup (ts : DA) : DE := fun m Q => ts m fun vs m1 => vs.length ≤ sizeLine ∧ onDs vs fun xs => Q (.d (.tup xs)) m1
def dLst (ts : DA) : DE := fun m Q => ts m fun vs m1 => vs.length ≤ sizeLine ∧ onDs vs fun xs => Q (.d (.lst xs)) m1
def dLstO (ts : DA) : DE := fun m Q => ts m fun vs m1 => vs.length ≤ sizeLine ∧ onDs vs fun xs => Q (.c m1.st.length) ⟨m1.sl, m1.st ++ [.lst xs]⟩
theorem je_tup {es : List Expr} {ts : DA} {k} (h : JA X es ts) : JE X (.Tuple es k pos) (dTup ts) := by
  refine (pe_tup h).imp fun σ H Q hh => ?_
  obtain ⟨W, F, A, m, Qd, G, h, c⟩ := hh
  refine ⟨W, F, A, m, _, G, h, fun F1 A1 vs m1 H1 s1 p1 G1 q1 us r1 => ⟨by rw [← r1.length]; exact q1.1, fun p np => ?_⟩⟩
  obtain ⟨xs, rfl, q⟩ := onDs_elim q1.2
  have rs := reps_of r1
  have s2 := same_upd (o := .tup us) (G1.ext.free np)
  refine c (upd F1 p (.tup us)) A1 _ m1 _ (s1.trans s2) p1 (G1.laid np) q _ ?_
  show Rep X.K _ (.tup xs) _
  simp only [Rep]
  exact ⟨p, us, rfl, SqT.of upd_same, Reps.mono s2 rs⟩
theorem je_lst {es : List Expr} {ts : DA} (h : JA X es ts) : JE X (.List es pos) (dLst ts) := by
  refine (pe_lst h).imp fun σ H Q hh => ?_
  obtain ⟨W, F, A, m, Qd, G, h, c⟩ := hh
  refine ⟨W, F, A, m, _, G, h, fun F1 A1 vs m1 H1 s1 p1 G1 q1 us r1 => ⟨by rw [← r1.length]; exact q1.1, fun p np => ?_⟩⟩
  obtain ⟨xs, rfl, q⟩ := onDs_elim q1.2
  have rs := reps_of r1
  have s2 := same_upd (o := .lst us) (G1.ext.free np)
  refine c (upd F1 p (.lst us)) A1 _ m1 _ (s1.trans s2) p1 (G1.laid np) q _ ?_
  show Rep X.K _ (.lst xs) _
  simp only [Rep]
  exact ⟨p, us, rfl, Rd.of upd_same, Reps.mono s2 rs⟩
theorem je_lstO {es : List Expr} {ts : DA} (h : JA X es ts) : JE X (.List es pos) (dLstO ts) := by
  refine (pe_lst h).imp fun σ H Q hh => ?_
  obtain ⟨W, F, A, m, Qd, G, h, c⟩ := hh
  refine ⟨W, F, A, m, _, G, h, fun F1 A1 vs m1 H1 s1 p1 G1 q1 us r1 => ⟨by rw [← r1.length]; exact q1.1, fun p np => ?_⟩⟩
  obtain ⟨xs, rfl, q⟩ := onDs_elim q1.2
  refine c F1 (A1 ++ [p]) _ _ _ s1 (pre_trans p1 ⟨[p], rfl⟩) (G1.own np (reps_of r1)) q _ ⟨p, ?_, rfl⟩
  rw [← G1.len]
  simp

def onO {α : Type} (o : Option α) (P : α → Prop) : Prop := match o with
  | some z => P z
  | none => False
theorem onO_elim {α : Type} {o : Option α} {P : α → Prop} (h : onO o P) : ∃ z, o = some z ∧ P z := by
  cases o with
  | none => exact h.elim
  | some z => exact ⟨z, rfl, h⟩
theorem onO_mk {α : Type} {o : Option α} {P : α → Prop} {z : α} (e : o = some z) (h : P z) : onO o P := by
  rw [e]
  exact h
def rIx : DR2 := fun x y P => match x, y with
  | .lst xs, .int i => onO (atI xs i) P
  | .tup xs, .int i => onO (atI xs i) P
  | .str s, .int i => s.length ≤ sizeLine ∧ onO (atI s.cps.toList i) fun c => P (.str ⟨#[c]⟩)
  | _, _ => False
theorem atI_reps {K : PySem.W.Frag} {F : Hp} {xs : List Dt} {vs : List V} {i : Int} {z : Dt} (r : Reps K F xs vs) (h : atI xs i = some z) : ∃ v, atI vs i = some v ∧ Rep K F z v := by
  unfold atI at h ⊢
  rw [← r.length]
  cases q : ixN xs.length i with
  | none =>
    rw [q] at h
    cases h
  | some j =>
    rw [q] at h
    exact r.get (i := j) h
theorem val_ix : ValD X.K (L2.rIx X.K) rIx := by
  intro W F A m σ H x y u v P Q G rx ry q c
  have go : ∀ z w, Rep X.K F z w → P z → Q w H := fun z w rz pz => c F H z w (Same.refl _) G rz pz
  unfold rIx at q
  split at q
  · obtain ⟨a, vs, rfl, hs, rs⟩ := rx
    obtain ⟨z, e, q⟩ := onO_elim q
    obtain ⟨w, hw, rz⟩ := atI_reps rs e
    exact .inl ⟨a, vs, _, w, rfl, repB_int ry, .inl hs, hw, go z w rz q⟩
  · obtain ⟨a, vs, rfl, hs, rs⟩ := repB_tup rx
    have hs := seqT_mono G.ext hs
    obtain ⟨z, e, q⟩ := onO_elim q
    obtain ⟨w, hw, rz⟩ := atI_reps rs e
    exact .inr (.inl ⟨a, vs, _, w, rfl, repB_int ry, hs, hw, go z w rz q⟩)
  · obtain ⟨hl, q⟩ := q
    obtain ⟨z, e, q⟩ := onO_elim q
    exact .inr (.inr ⟨_, _, z, repB_str rx, repB_int ry, hl, e, go _ _ rep_str q⟩)
  · exact q.elim
theorem je_ix (ha : JE X a ta) (hb : JE X b tb) (hs : PlainIx b := by intro _ _; rfl) : JE X (.Subscript a b pos) (dOp rIx ta tb) :=
  (pe_ix ix_seq ha hb hs).imp fun _ _ _ h => lift_op val_ix h
end
end RT

set_option maxRecDepth 100000
set_option maxHeartbeats 4000000
namespace RT
open PySem PySem.Spec PyProof.Rows L2

structure GRoom (k : Nat) (A : Around) : Prop where
  room : Room k A
  gd : A.guards = some []
  dp : A.depth + 3 * k + 160 < recursionLimit
theorem GRoom.mono {j k : Nat} {A : Around} (r : GRoom k A) (h : j ≤ k) : GRoom j A := ⟨r.room.mono h, r.gd, by have := r.dp; omega⟩
theorem GRoom.deeper {k : Nat} {A : Around} (r : GRoom (k + 1) A) (env : Env) : GRoom k (A.deeper env) :=
  ⟨r.room.deeper env, r.gd, by have := r.dp; show A.depth + 1 + 3 * k + 160 < _; omega⟩
theorem GRoom.hu {k : Nat} {A : Around} (r : GRoom k A) : A.units + 64 < cLine := r.room.units
structure BaseOk (K : PySem.W.Frag) (mg : Str → Option Value) (base : Heap) : Prop where
  seer : base.NoSeer
  tb : ∀ q ∈ tabsK K, GxR.TabB base mg q.1 q.2
def CodeIs (K : PySem.W.Frag) (f : Addr) (cdv : Value) : Prop := ∃ (oc : Value) (od : Option Addr) (fd : FuncData) (osl : Array (Option Value)), K.lookup f = some ⟨oc, od, .func fd, osl⟩ ∧ fd.code = cdv
structure Amb (k : Nat) (X : Cx) : Prop where
  rm : GRoom k X.A
  py : Pyl X
  tb : ∀ q ∈ tabsK X.K, GxR.TabB X.base X.mg q.1 q.2
theorem Amb.mono {j k : Nat} {X : Cx} (r : Amb k X) (h : j ≤ k) : Amb j X := ⟨r.rm.mono h, r.py, r.tb⟩
theorem Amb.hu {k : Nat} {X : Cx} (r : Amb k X) : X.A.units + 64 < cLine := r.rm.room.units

structure Fnn (P : Program) (w : World) (K : PySem.W.Frag) (mg : Str → Option Value) (base : Heap) (CX : CXT) (k : Nat) (f : Addr) (fd : FuncData) (ps : List Str) (sp : Sp) : Prop where
  len : ∀ vs H Q E, sp vs H Q E → vs.length = ps.length
  run : ∀ (A : Around) (outer : List Env) (s : Shared) (H : Hp) (args : Args) (us : List Value) (vs : List V) (Q : VK) (E : XK), GRoom k A → Env0 P w K mg base A outer s H → BindsTo s fd args (ps.zip us) → Vals vs us → sp vs H Q E →
    codeAny (model P w) A (.call (.ref f) args) (CR CX outer P w H s Q E) s
theorem Fnn.mono {P : Program} {w : World} {K : PySem.W.Frag} {mg : Str → Option Value} {base : Heap} {CX : CXT} {j k : Nat} {f : Addr} {fd : FuncData} {ps : List Str} {sp : Sp} (F : Fnn P w K mg base CX j f fd ps sp) (h : j ≤ k) :
    Fnn P w K mg base CX k f fd ps sp := ⟨F.len, fun A outer s H args us vs Q E hr => F.run A outer s H args us vs Q E (hr.mono h)⟩
theorem Fnn.imp {P : Program} {w : World} {K : PySem.W.Frag} {mg : Str → Option Value} {base : Heap} {CX : CXT} {k : Nat} {f : Addr} {fd : FuncData} {ps : List Str} {sp sp' : Sp} (F : Fnn P w K mg base CX k f fd ps sp)
    (h : ∀ vs H Q E, sp' vs H Q E → sp vs H Q E) : Fnn P w K mg base CX k f fd ps sp' :=
  ⟨fun vs H Q E q => F.len vs H Q E (h _ _ _ _ q), fun A outer s H args us vs Q E hr he hb hv hs => F.run A outer s H args us vs Q E hr he hb hv (h _ _ _ _ hs)⟩
section
variable {X : Cx} {CX : CXT} {k : Nat} {f C : Addr} {fd : FuncData} {ps : List Str} {sp : Sp} {dvs : List V} {ds : List Value} {E : XK} {x m : Str} {p pos apos : Pos} {e o : Expr} {es : List Expr} {ta : TE} {t : TA}
theorem run_fnn {pins : List (Addr × Obj)} {σ : L2.St} {H : Hp} {s : Shared} {Q : VK} {us : List Value} {vs : List V} (F : Fnn X.prog X.w X.K X.mg X.base CX k f fd ps sp) (hr : GRoom k X.A) (hb : Binds X.K fd ps ds) (hd : Vals dvs ds) (hx : Passes CX X E)
    (I : Inv X pins σ H s) (r : Vals vs us) (h : sp (vs ++ dvs) H Q E) : wpAny (model X.prog X.w) X.A (call (.ref f) us) (EP X pins σ Q) X.xe s := by
  have r2 : Vals (vs ++ dvs) (us ++ ds) := r.append hd
  have hl : (us ++ ds).length = ps.length := by rw [← r2.length]; exact F.len _ _ _ _ h
  refine wpAny_call (codeAny_mono (F.run X.A X.stack s H ⟨us, []⟩ (us ++ ds) (vs ++ dvs) Q E hr I.env0 (hb s us I.kIn hl) r2 h) fun r s' hq => ?_)
  cases r with
  | error e => exact hx pins σ H s e s' I hq
  | ok fl =>
    cases fl with
    | ret u => exact I.after hq
    | next => exact False.elim hq
    | brk => exact False.elim hq
    | cont => exact False.elim hq
theorem pn_call (F : Fnn X.prog X.w X.K X.mg X.base CX k f fd ps sp) (hr : GRoom k X.A) (hg : Gl X x) (hm : X.mg x = some (.ref f)) (hk : PySem.W.keepIn X.K (.ref f) = true) (hb : Binds X.K fd ps ds) (hd : Vals dvs ds) (hx : Passes CX X E)
    (ha : PA X (e :: es) t) (hdb : (x == ("__debug__" : Str)) = false := by decide) (he : starEach (e :: es) X.env = (false, eval e X.env) :: starEach es X.env := by rfl) (hpl : (backTo pos (starEach es X.env)).any (·.1) = false := by rfl) :
    PE X (.Call (.Name x p) (e :: es) [] pos) (tCall sp dvs E t) := by
  refine ⟨fun pins s σ H Q I h => ?_⟩
  refine wpAny_Call_Name_kw (ld_glob I hg hm ?_ hdb)
  refine PySem.W.callWith_K (h₀ := X.base) I.ok.mod.kin hk (thn (ha.run pos pins s σ H _ I h) fun us s1 ⟨vs, H1, I1, r, q⟩ => ⟨I1.kIn, ?_⟩) he hpl
  exact run_fnn F hr hb hd hx I1 r q
end
theorem fnn_of {CX : CXT} {P : Program} {w : World} {K : PySem.W.Frag} {mg : Str → Option Value} {base : Heap} {k : Nat} {f : Addr} {name qual : Str} {params : Arguments} {body : List Stmt} {scope : Scope} {dV kV doc pm cdv ct oc : Value} {an od : Option Addr}
    {osl : Array (Option Value)} {N ps : List Str} {sp : Sp} (hns : BaseOk K mg base) (htr : P.given.tree = none) (lk : K.lookup f = some ⟨oc, od, .func (PySem.W.fnOf name qual params body scope dV kV doc pm an cdv ct), osl⟩) (hcd : PySem.W.codeIn K cdv qual = true) (S : FnScope N ps scope)
    (len : ∀ vs H Q E, sp vs H Q E → vs.length = ps.length)
    (hbody : ∀ (A : Around) (outer : List Env) (s : Shared) (H : Hp) (vs : List V) (Q : VK) (E : XK), Amb k (cxOf CX P w K mg base N qual scope f cdv A outer s H E) → sp vs H Q E →
      ∃ t, PSs (cxOf CX P w K mg base N qual scope f cdv A outer s H E) body t ∧ t { nx := fun _ H' => Q .non H', rt := Q } (L2.start N vs) H) :
    Fnn P w K mg base CX (k + 1) f (PySem.W.fnOf name qual params body scope dV kV doc pm an cdv ct) ps sp := by
  refine ⟨len, fun A outer s H args us vs Q E hr e0 hb r hsp => ?_⟩
  have hl := len _ _ _ _ hsp
  have KX : K.In s.heap := e0.mod.kin.keeps fun b o e => (e0.bs b o e).1
  have lim : s.heap.NoLimit := e0.mod.nolimit.keeps fun b o e => (e0.bs b o e).1
  have hkind : ∀ y ∈ ps.zip us, scope.names.lookup y.1 = some .local ∨ (scope.names.lookup y.1 = some .cell ∧ ((cellsFrom (s.heap.objs.size + 1) scope.names []).lookup y.1).isSome = true) := fun ⟨n, v⟩ hy => by
    rcases S.par n (List.of_mem_zip hy).1 with q | q
    · exact .inl q
    · exact .inr ⟨q, PySem.W.cellsFrom_some _ _ _ (.inl q)⟩
  refine codeAny_call_function hr.room.depth (KX _ _ lk) rfl S.co S.gen rfl (PySem.W.codeRec_of KX hcd) (hb _ _ _ _ ?_)
  refine wpAny_newFunctionEnv_cells S.kind hkind fun env he s1 x => ?_
  subst he
  refine ⟨lim.keeps x.toInCall.keep, codeAny_func ?_⟩
  have amb : Amb k (cxOf CX P w K mg base N qual scope f cdv A outer s H E) := ⟨hr.deeper _, fun s' ks =>
    PySem.PylongRoom.of (e0.mod.nolimit.keeps ks) (by have := hr.dp; show A.depth + 1 + Builtin.pylongFrames < recursionLimit; have e : Builtin.pylongFrames = 100 := rfl; omega)
      (PySem.SeerAt.of (hns.seer.keeps ks) htr (PySem.Around.frames_deeper e0.frames) S.gen S.co rfl rfl), hns.tb⟩
  obtain ⟨t, ht, hq⟩ := hbody A outer s H vs Q E amb hsp
  have I : Inv (cxOf CX P w K mg base N qual scope f cdv A outer s H E) [] (L2.start N vs) H s1 := inv_start S hr.room.hd e0 hl r x
  refine wpAny_mono (ht.run [] s1 (L2.start N vs) H _ I hq) (fun fl s' hs => ?_) fun e s' hs => hs
  have fin : ∀ {σ' : L2.St} {H' : Hp} {v : V} {u : Value}, Inv (cxOf CX P w K mg base N qual scope f cdv A outer s H E) [] σ' H' s' → RelV v u → Q v H' → CE outer P w H s Q u s' :=
    fun {σ' H' v u} J rv q => ⟨v, H', J.os, J.bare, J.base, J.hok, rv, q⟩
  cases fl with
  | ret u =>
    obtain ⟨v, σ', H', J, rv, q⟩ := hs
    exact fin J rv q
  | next =>
    obtain ⟨σ', H', J, q⟩ := hs
    exact fin (v := V.non) (u := Value.none) J rfl q
  | brk =>
    obtain ⟨_, _, _, q⟩ := hs
    exact False.elim q
  | cont =>
    obtain ⟨_, _, _, q⟩ := hs
    exact False.elim q

abbrev FSpec := List Vl → List Cell → (Vl → List Cell → Prop) → Prop
def liftSp (K : PySem.W.Frag) (sp : FSpec) : Sp := fun vs H Q _ => ∃ W F A st args Qd, Good K W F A ⟨[], st⟩ [] H ∧ RepVs K F A args vs ∧ sp args st Qd ∧
  ∀ F' A' st' H' r u, Same F F' → A <+: A' → Good K W F' A' ⟨[], st'⟩ [] H' → RepV K F' A' r u → Qd r st' → Q u H'
section
variable {K : PySem.W.Frag} {W F F' : Hp} {A A' : List Addr} {m : M} {σ : L2.St} {H H' : Hp}
theorem Good.bare (G : Good K W F A m σ H) : Good K W F A ⟨[], m.st⟩ [] H := ⟨G.ext, G.hid, G.dj, rfl, fun i v e => by simp at e, G.len, G.st, G.nd, G.tb⟩
theorem Good.back {st' : List Cell} (G : Good K W F A m σ H) (s : Same F F') (p : A <+: A') (G' : Good K W F' A' ⟨[], st'⟩ [] H') : Good K W F' A' ⟨m.sl, st'⟩ σ H' :=
  ⟨G'.ext, G'.hid, G'.dj, G.slen, fun i v e => let ⟨u, h1, h2⟩ := G.sl i v e; ⟨u, h1, RepV.mono s p h2⟩, G'.len, G'.st, G'.nd, G'.tb⟩
theorem Good.take (G : Good K W F A m σ H) (n : Nat) : Good K W F (A.take n) ⟨[], m.st.take n⟩ [] H := by
  have q : ∀ k c, (m.st.take n)[k]? = some c → k < n ∧ m.st[k]? = some c := fun k c e => by
    rw [List.getElem?_take] at e
    by_cases hk : k < n
    · rw [if_pos hk] at e
      exact ⟨hk, e⟩
    · rw [if_neg hk] at e
      cases e
  have ra : ∀ k, k < n → (A.take n)[k]? = A[k]? := fun k hk => by rw [List.getElem?_take, if_pos hk]
  refine ⟨G.ext, G.hid, G.dj, rfl, fun i v e => by simp at e, by simp [G.len], fun k xs e => ?_, fun j k xs ys a e1 e2 h1 h2 => ?_, G.tb⟩
  · obtain ⟨hk, e'⟩ := q k _ e
    obtain ⟨a, vs, p1, p2⟩ := G.st k xs e'
    exact ⟨a, vs, (ra k hk).trans p1, p2⟩
  · obtain ⟨hj, e1'⟩ := q j _ e1
    obtain ⟨hk, e2'⟩ := q k _ e2
    exact G.nd j k xs ys a e1' e2' ((ra j hj).symm.trans h1) ((ra k hk).symm.trans h2)
theorem repVs_slots {args : List Vl} {vs : List V} (r : RepVs K F A args vs) (n : Nat) : ∀ (i : Nat) (v : Vl), (args.map some ++ List.replicate n none)[i]? = some (some v) → ∃ u : V, (vs.map some ++ List.replicate n (none : Option V))[i]? = some (some u) ∧ RepV K F A v u := by
  induction args generalizing vs with
  | nil =>
    intro i v e
    simp only [List.map_nil, List.nil_append, List.getElem?_replicate] at e
    split at e <;> cases e
  | cons a r' ih =>
    obtain ⟨u, us, rfl, h1, h2⟩ := r
    intro i v e
    cases i with
    | zero =>
      cases e
      exact ⟨u, rfl, h1⟩
    | succ j => exact ih h2 j v e
def retD (kp : Bool) (n : Nat) (Qd : Vl → List Cell → Prop) : Vl → M → Prop := fun v m => match v with
  | .d x => Qd (.d x) (m.st.take n)
  | .c k => if k < n then Qd (.c k) (m.st.take n) else onC m.st k fun xs => if kp = true then Qd (.c n) (m.st.take n ++ [.lst xs]) else Qd (.d (.lst xs)) (m.st.take n)
def endsOf (kp : Bool) (n : Nat) (Qd : Vl → List Cell → Prop) : DEnds := ⟨retD kp n Qd (.d .non), retD kp n Qd, fun _ => False, fun _ => False⟩
def startM (N : Nat) (args : List Vl) (st : List Cell) : M := ⟨args.map some ++ List.replicate (N - args.length) none, st⟩
theorem pre_take {A0 A' : List Addr} (p : A0 <+: A') : A'.take A0.length = A0 := by
  obtain ⟨t, rfl⟩ := p
  simp
theorem retD_ok {kp : Bool} {A0 : List Addr} {F0 : Hp} {n : Nat} {Qd : Vl → List Cell → Prop} {Q : VK} {v : Vl} {u : V} (hn : A0.length = n) (sF : Same F0 F) (p : A0 <+: A) (G : Good K W F A m σ H) (r : RepV K F A v u) (q : retD kp n Qd v m)
    (c : ∀ F' A' st' H' r u, Same F0 F' → A0 <+: A' → Good K W F' A' ⟨[], st'⟩ [] H' → RepV K F' A' r u → Qd r st' → Q u H') : Q u H := by
  have eA : A.take n = A0 := by rw [← hn]; exact pre_take p
  have G1 := G.take n
  rw [eA] at G1
  cases v with
  | d x => exact c F A0 _ H (.d x) u sF (pre_refl _) G1 r q
  | c k =>
    obtain ⟨a, ha, rfl⟩ := r
    have q' : if k < n then Qd (.c k) (m.st.take n) else onC m.st k fun xs => if kp = true then Qd (.c n) (m.st.take n ++ [.lst xs]) else Qd (.d (.lst xs)) (m.st.take n) := q
    by_cases hk : k < n
    · rw [if_pos hk] at q'
      refine c F A0 _ H (.c k) _ sF (pre_refl _) G1 ⟨a, ?_, rfl⟩ q'
      rw [← eA, List.getElem?_take, if_pos hk]
      exact ha
    · rw [if_neg hk] at q'
      obtain ⟨xs, e, q'⟩ := onC_elim q'
      · obtain ⟨a', vs, h1, h2, h3, h4, h5⟩ := G.st k xs e
        rw [ha] at h1
        cases h1
        have old : ∀ (j : Nat) (ys : List Dt) (b : Addr), (m.st.take n)[j]? = some (Cell.lst ys) → A0[j]? = some b → b ≠ a := fun j ys b e1 e2 z => by
          rw [List.getElem?_take] at e1
          by_cases hj : j < n
          · rw [if_pos hj] at e1
            have e3 : A[j]? = some b := by
              rw [← eA, List.getElem?_take, if_pos hj] at e2
              exact e2
            have := G.nd j k ys xs a e1 e (by rw [← z]; exact e3) ha
            omega
          · rw [if_neg hj] at e1
            cases e1
        have nlen : (m.st.take n).length = n := by rw [← G1.len]; exact hn
        split at q'
        · -- the caller's own
          refine c F (A0 ++ [a]) _ H (.c n) _ sF ⟨[a], rfl⟩ ?_ ⟨a, ?_, rfl⟩ q'
          · have sp : ∀ j c, (m.st.take n ++ [Cell.lst xs])[j]? = some c → (j < n ∧ (m.st.take n)[j]? = some c) ∨ (j = n ∧ c = .lst xs) := fun j c e => by
              by_cases hj : j < n
              · exact .inl ⟨hj, by rw [List.getElem?_append_left (by rw [nlen]; exact hj)] at e; exact e⟩
              · have hl := (List.getElem?_eq_some_iff.mp e).1
                rw [List.length_append, nlen, List.length_singleton] at hl
                have ej : j = n := by omega
                subst ej
                rw [List.getElem?_append_right (by rw [nlen]; exact Nat.le_refl _), nlen, Nat.sub_self] at e
                exact .inr ⟨rfl, (Option.some.inj e).symm⟩
            have aold : ∀ j, j < n → (A0 ++ [a])[j]? = A0[j]? := fun j hj => List.getElem?_append_left (by rw [hn]; exact hj)
            have anew : (A0 ++ [a])[n]? = some a := by rw [← hn]; simp
            refine ⟨G.ext, G.hid, G.dj, rfl, fun i v e => by simp at e, by rw [List.length_append, List.length_append, nlen, hn]; rfl, fun j ys e => ?_, fun i j ys zs b e1 e2 p1 p2 => ?_, G.tb⟩
            · rcases sp j _ e with ⟨hj, e'⟩ | ⟨rfl, ec⟩
              · obtain ⟨b, ws, q1, q2⟩ := G1.st j ys e'
                exact ⟨b, ws, (aold j hj).trans q1, q2⟩
              · cases ec
                exact ⟨a, vs, anew, h2, h3, h4, h5⟩
            · rcases sp i _ e1 with ⟨hi, e1'⟩ | ⟨rfl, _⟩
              · rcases sp j _ e2 with ⟨hj, e2'⟩ | ⟨rfl, _⟩
                · exact G1.nd i j ys zs b e1' e2' ((aold i hi).symm.trans p1) ((aold j hj).symm.trans p2)
                · rw [anew] at p2
                  cases p2
                  exact (old i ys _ e1' ((aold i hi).symm.trans p1) rfl).elim
              · rcases sp j _ e2 with ⟨hj, e2'⟩ | ⟨rfl, _⟩
                · rw [anew] at p1
                  cases p1
                  exact (old j zs _ e2' ((aold j hj).symm.trans p2) rfl).elim
                · rfl
          · rw [← hn]
            simp
        · -- plain data
          have s2 : Same F (upd F a (.lst vs)) := same_upd h4
          refine c (upd F a (.lst vs)) A0 _ H (.d (.lst xs)) _ (sF.trans s2) (pre_refl _) ⟨fun b x z => ?_, G.hid, fun b x z => by rw [upd_ne (fun y => by rw [y, h5] at z; cases z)]; exact G.dj b x z, rfl, fun i v e => by simp at e, G1.len, fun j ys e' => ?_, G1.nd, fun q hq => ⟨(G.tb q hq).1, by rw [upd_ne (tab_ne (G.tb q hq).1 h2)]; exact (G.tb q hq).2.1, (G.tb q hq).2.2⟩⟩ ?_ q'
          · by_cases hb : b = a
            · subst hb
              rw [upd_same] at z
              cases z
              exact h2
            · rw [upd_ne hb] at z
              exact G.ext _ _ z
          · obtain ⟨b, ws, q1, q2, q3, q4⟩ := G1.st j ys e'
            exact ⟨b, ws, q1, q2, Reps.mono s2 q3, by rw [upd_ne (old j ys b e' q1)]; exact q4.1, q4.2⟩
          · show Rep K _ (.lst xs) _
            simp only [Rep]
            exact ⟨a, vs, rfl, Rd.of upd_same, Reps.mono s2 h3⟩
end

def dCall (sp : FSpec) (dargs : List Vl) (ts : DA) : DE := fun m Q => ts m fun vs m1 => sp (vs ++ dargs) m1.st fun r st' => Q r ⟨m1.sl, st'⟩
theorem repVs_app {K : PySem.W.Frag} {F : Hp} {A : List Addr} : ∀ {x y : List Vl} {u v : List V}, RepVs K F A x u → RepVs K F A y v → RepVs K F A (x ++ y) (u ++ v)
  | [], y, u, v, h, h' => by
    have e : u = [] := h
    rw [e]
    exact h'
  | a :: x, y, u, v, h, h' => by
    obtain ⟨u0, r, rfl, h1, h2⟩ := h
    exact ⟨u0, r ++ v, rfl, h1, repVs_app h2 h'⟩
theorem lift_call {K : PySem.W.Frag} {sp : FSpec} {dargs : List Vl} {dvs : List V} {ts : DA} {E : XK} (hd : ∀ F A, RepVs K F A dargs dvs) {σ : L2.St} {H : Hp} {Q : VK} (h : lift K (dCall sp dargs ts) σ H Q) : tCall (liftSp K sp) dvs E (liftA K ts) σ H Q := by
  obtain ⟨W, F, A, m, Qd, G, h, c⟩ := h
  refine ⟨W, F, A, m, _, G, h, fun F1 A1 vs m1 H1 s1 p1 G1 q1 us r1 => ⟨W, F1, A1, m1.st, vs ++ dargs, _, G1.bare, repVs_app r1 (hd F1 A1), q1, fun F2 A2 st2 H2 r u s2 p2 G2 r2 q2 => ?_⟩⟩
  exact c F2 A2 r _ H2 (s1.trans s2) (pre_trans p1 p2) (G1.back s2 p2 G2) q2 u r2
structure FnAt (X : Cx) (x : Str) (k : Nat) (sp : FSpec) (dargs : List Vl) : Prop where
  nd : (x == ("__debug__" : Str)) = false
  ex : ∃ (f : Addr) (fd : FuncData) (ps : List Str) (ds : List Value) (dvs : List V), Fnn X.prog X.w X.K X.mg X.base CX0 k f fd ps (liftSp X.K sp) ∧ X.mg x = some (.ref f) ∧ PySem.W.keepIn X.K (.ref f) = true ∧ Binds X.K fd ps ds ∧ Vals dvs ds ∧ ∀ F A, RepVs X.K F A dargs dvs
section
variable {X : Cx} {k : Nat} {x : Str} {p pos : Pos} {e : Expr} {es : List Expr} {ts : DA} {sp : FSpec} {dargs : List Vl}
theorem je_call (F : FnAt X x k sp dargs) (hr : GRoom k X.A) (hg : Gl X x) (ha : JA X (e :: es) ts) (he : starEach (e :: es) X.env = (false, eval e X.env) :: starEach es X.env := by rfl) (hpl : (backTo pos (starEach es X.env)).any (·.1) = false := by rfl) :
    JE X (.Call (.Name x p) (e :: es) [] pos) (dCall sp dargs ts) := by
  obtain ⟨nd, f, fd, ps, ds, dvs, F, hm, hk, hb, hd, hda⟩ := F
  exact (pn_call F hr hg hm hk hb hd pass0 ha nd he hpl).imp fun _ _ _ h => lift_call hda h
end
end RT

set_option maxRecDepth 100000
set_option maxHeartbeats 4000000
namespace RT
open PySem PySem.Spec PyProof.Rows L2

inductive Tgt where
  | nm (i : Nat) | tp (is : List Nat)
def gNames : List Nat → TGs
  | [] => gNil
  | i :: r => gCons (gName i) (gNames r)
def tgH (K : PySem.W.Frag) : Tgt → TG
  | .nm i => gName i
  | .tp is => gTup K is.length (gNames is)
def setsD : List Nat → List Dt → List (Option Vl) → List (Option Vl)
  | i :: is, x :: xs, sl => setsD is xs (sl.set i (some (.d x)))
  | _, _, sl => sl
def setsV : List Nat → List V → L2.St → L2.St
  | i :: is, x :: xs, σ => setsV is xs (σ.set i (some x))
  | _, _, σ => σ
def tgD : Tgt → Vl → M → (M → Prop) → Prop
  | .nm i, v, m, Q => Q ⟨m.sl.set i (some v), m.st⟩
  | .tp is, v, m, Q => match v with
    | .d (.tup xs) => xs.length = is.length ∧ Q ⟨setsD is xs m.sl, m.st⟩
    | _ => False
def tgSlots : Tgt → List Nat
  | .nm i => [i]
  | .tp is => is
section
variable {K : PySem.W.Frag} {W F F' : Hp} {A A' : List Addr} {m : M} {σ : L2.St} {H H' : Hp}
theorem Good.sets : ∀ {is : List Nat} {xs : List Dt} {vs : List V} {m : M} {σ : L2.St}, Good K W F A m σ H → Reps K F xs vs → Good K W F A ⟨setsD is xs m.sl, m.st⟩ (setsV is vs σ) H
  | [], _, _, _, _, G, _ => by
    unfold setsD setsV
    exact G
  | i :: is, [], vs, m, σ, G, r => by
    have e : vs = [] := by simpa only [Reps] using r
    rw [e]
    exact G
  | i :: is, x :: xs, vs, m, σ, G, r => by
    have e : ∃ v r', vs = v :: r' ∧ Rep K F x v ∧ Reps K F xs r' := by simpa only [Reps] using r
    obtain ⟨v, r', rfl, h1, h2⟩ := e
    have G1 := G.store (i := i) (v := .d x) (u := v) h1
    exact Good.sets (is := is) G1 h2
theorem gNames_ok {Q : L2.St → Hp → Prop} : ∀ {is : List Nat} {vs : List V} {σ : L2.St}, vs.length = is.length → Q (setsV is vs σ) H → gNames is vs σ H Q
  | [], [], _, _, q => ⟨rfl, q⟩
  | i :: is, v :: vs, σ, hl, q => ⟨v, vs, rfl, gNames_ok (is := is) (by simpa using hl) q⟩
  | [], _ :: _, _, hl, _ => by simp at hl
  | _ :: _, [], _, hl, _ => by simp at hl
theorem tg_ok {t : Tgt} {v : Vl} {u : V} {Qd : M → Prop} {Q : L2.St → Hp → Prop} (G : Good K W F A m σ H) (r : RepV K F A v u) (q : tgD t v m Qd)
    (c : ∀ m' σ', Good K W F A m' σ' H → (∀ vs : List Nat, (∀ i ∈ tgSlots t, i ∈ vs) → wipe σ' vs = wipe σ vs) → Qd m' → Q σ' H) : tgH K t u σ H Q := by
  have w1 : ∀ (vs : List Nat) (i : Nat) (o : Option V) (σ : L2.St), i ∈ vs → wipe (σ.set i o) vs = wipe σ vs := by
    intro vs
    induction vs with
    | nil =>
      intro i o σ h
      cases h
    | cons v vs ih =>
      intro i o σ h
      unfold wipe
      by_cases hv : v = i
      · subst hv
        by_cases hm : v ∈ vs
        · rw [ih v o σ hm]
        · have w2 : ∀ (vs : List Nat) (σ : L2.St), v ∉ vs → (wipe (σ.set v o) vs) = (wipe σ vs).set v o := by
            intro vs
            induction vs with
            | nil =>
              intro σ _
              rfl
            | cons z vs ih =>
              intro σ hz
              unfold wipe
              rw [ih σ (fun q => hz (List.mem_cons_of_mem _ q)), List.set_comm]
              intro e
              exact hz (by rw [e]; exact List.mem_cons_self)
          rw [w2 vs σ hm, List.set_set]
      · have hm : i ∈ vs := by
          rcases List.mem_cons.mp h with z | z
          · exact absurd z.symm hv
          · exact z
        rw [ih i o σ hm]
  cases t with
  | nm i => exact c _ _ (G.store r) (fun vs hv => w1 vs i _ σ (hv i (by unfold tgSlots; exact List.mem_singleton.mpr rfl))) q
  | tp is =>
    cases v with
    | c k => exact (show False from q).elim
    | d x =>
      cases x with
      | tup xs =>
        obtain ⟨hl, q⟩ : xs.length = is.length ∧ Qd ⟨setsD is xs m.sl, m.st⟩ := q
        have r' : Rep K F (.tup xs) u := r
        simp only [Rep] at r'
        obtain ⟨a, vs, rfl, hs, rs⟩ := r'
        have hlv : vs.length = is.length := by rw [← rs.length]; exact hl
        refine ⟨a, vs, rfl, seqT_mono G.ext hs, hlv, gNames_ok hlv (c _ _ (G.sets rs) (fun ws hw => ?_) q)⟩
        have go : ∀ (is : List Nat) (vs : List V) (σ : L2.St), (∀ i ∈ is, i ∈ ws) → wipe (setsV is vs σ) ws = wipe σ ws := by
          intro is
          induction is with
          | nil =>
            intro vs σ _
            cases vs <;> rfl
          | cons i is ih =>
            intro vs σ hi
            cases vs with
            | nil => rfl
            | cons v vs =>
              show wipe (setsV is vs (σ.set i (some v))) ws = wipe σ ws
              rw [ih vs _ (fun j hj => hi j (List.mem_cons_of_mem _ hj)), w1 ws i _ σ (hi i List.mem_cons_self)]
        exact go is vs σ hw
      | _ => exact (show False from q).elim
end
section
variable {X : Cx}
theorem jg_of {e : Expr} {t : Tgt} {g : TG} (h : PG X e g) (e1 : g = tgH X.K t := by rfl) : PG X e (tgH X.K t) := e1 ▸ h
end

def lockOk (lk : Option Nat) (xs : List Dt) (m : M) : Prop := match lk with
  | none => True
  | some k => m.st[k]? = some (.lst xs)
abbrev DI := M → (List Dt → Option Nat → M → Prop) → Prop
structure Walks (K : PySem.W.Frag) (J : It) (F : Hp) (A : List Addr) (xs : List Dt) (lk : Option Nat) : Prop where
  go : ∀ W F' A' m σ H i x, Same F F' → A <+: A' → Good K W F' A' m σ H → lockOk lk xs m → xs[i]? = some x → J.go i H ∧ ∀ v H', J.yld i H v H' → ∃ F2, Same F' F2 ∧ Good K W F2 A' m σ H' ∧ Rep K F2 x v
  stop : ∀ W F' A' m σ H, Same F F' → A <+: A' → Good K W F' A' m σ H → lockOk lk xs m → J.stop xs.length H
def liftI (K : PySem.W.Frag) (t : DI) : TI := fun σ H R => ∃ W F A m Qd, Good K W F A m σ H ∧ t m Qd ∧
  ∀ F' A' xs lk m' H', Same F F' → A <+: A' → Good K W F' A' m' σ H' → Qd xs lk m' → ∀ J, Walks K J F' A' xs lk → R J H'
abbrev JI (X : Cx) (tg iter : Expr) (t : DI) : Prop := PI X tg iter (liftI X.K t)
theorem _root_.L2.PI.imp {X : Cx} {tg e : Expr} {t t' : TI} (h : PI X tg e t) (f : ∀ σ H Q, t' σ H Q → t σ H Q) : PI X tg e t' := ⟨fun pins s σ H Q I q => h.run pins s σ H Q I (f _ _ _ q)⟩
section
variable {K : PySem.W.Frag}
theorem walks_list {F : Hp} {A : List Addr} {a : Addr} {vs : List V} {xs : List Dt} (s : SqL K F a vs) (r : Reps K F xs vs) : Walks K (Itl K a) F A xs none where
  go := fun W F' A' m σ H i x sF p G _ hi => by
    obtain ⟨v, hv, rv⟩ := r.get hi
    have sq : SqL K H a vs := (sF.trans G.ext).seq s
    refine ⟨⟨vs, v, sq, hv⟩, fun u H' y => ?_⟩
    obtain ⟨rfl, y⟩ := y
    have e := (y vs sq).symm.trans hv
    cases e
    exact ⟨F', Same.refl _, G, Rep.mono sF rv⟩
  stop := fun W F' A' m σ H sF p G _ => ⟨vs, (sF.trans G.ext).seq s, by rw [r.length]; exact Nat.le_refl _⟩
theorem walks_tup {F : Hp} {A : List Addr} {a : Addr} {vs : List V} {xs : List Dt} (s : SqT K F a vs) (r : Reps K F xs vs) : Walks K (Itt K a) F A xs none where
  go := fun W F' A' m σ H i x sF p G _ hi => by
    obtain ⟨v, hv, rv⟩ := r.get hi
    have sq : SqT K H a vs := seqT_mono (sF.trans G.ext) s
    refine ⟨⟨vs, v, sq, hv⟩, fun u H' y => ?_⟩
    obtain ⟨rfl, y⟩ := y
    have e := (y vs sq).symm.trans hv
    cases e
    exact ⟨F', Same.refl _, G, Rep.mono sF rv⟩
  stop := fun W F' A' m σ H sF p G _ => ⟨vs, seqT_mono (sF.trans G.ext) s, by rw [r.length]; exact Nat.le_refl _⟩
theorem walks_own {F : Hp} {A : List Addr} {a : Addr} {k : Nat} {xs : List Dt} (ha : A[k]? = some a) : Walks K (Itl K a) F A xs (some k) := by
  have at_ : ∀ {W F' A' m σ H}, A <+: A' → Good K W F' A' m σ H → lockOk (some k) xs m → ∃ vs, H a = some (.lst vs) ∧ Reps K F' xs vs := fun {W F' A' m σ H} p G l => by
    obtain ⟨a', vs, h1, h2, h3, _⟩ := G.st k xs l
    obtain ⟨t, rfl⟩ := p
    have hk := (List.getElem?_eq_some_iff.mp ha).1
    rw [List.getElem?_append_left hk, ha] at h1
    cases h1
    exact ⟨vs, h2, h3⟩
  refine ⟨fun W F' A' m σ H i x sF p G l hi => ?_, fun W F' A' m σ H sF p G l => ?_⟩
  · obtain ⟨vs, h2, r⟩ := at_ p G l
    obtain ⟨v, hv, rv⟩ := r.get hi
    refine ⟨⟨vs, v, SqL.of h2, hv⟩, fun u H' y => ?_⟩
    obtain ⟨rfl, y⟩ := y
    have e := (y vs (SqL.of h2)).symm.trans hv
    cases e
    exact ⟨F', Same.refl _, G, rv⟩
  · obtain ⟨vs, h2, r⟩ := at_ p G l
    exact ⟨vs, SqL.of h2, by rw [r.length]; exact Nat.le_refl _⟩
end

section
variable {X : Cx} {tg l : Expr} {t : DE}
def rangeD (lo : Int) : Nat → List Dt
  | 0 => []
  | n + 1 => .int lo :: rangeD (lo + 1) n
theorem rangeD_len : ∀ (n : Nat) (lo : Int), (rangeD lo n).length = n
  | 0, _ => rfl
  | n + 1, lo => by
    unfold rangeD
    rw [List.length_cons, rangeD_len n]
theorem rangeD_get : ∀ (n : Nat) (lo : Int) (i : Nat) (x : Dt), (rangeD lo n)[i]? = some x → i < n ∧ x = .int (lo + i)
  | 0, _, i, x, h => by
    unfold rangeD at h
    simp at h
  | n + 1, lo, 0, x, h => by
    unfold rangeD at h
    have e : Dt.int lo = x := Option.some.inj h
    refine ⟨Nat.succ_pos _, ?_⟩
    rw [← e]
    congr 1
    simp
  | n + 1, lo, i + 1, x, h => by
    unfold rangeD at h
    obtain ⟨h1, h2⟩ := rangeD_get n (lo + 1) i x h
    refine ⟨by omega, ?_⟩
    rw [h2]
    congr 1
    omega
theorem walks_range {K : PySem.W.Frag} {F : Hp} {A : List Addr} (lo : Int) (n : Nat) : Walks K (Itr lo n) F A (rangeD lo n) none where
  go := fun W F' A' m σ H i x sF p G _ hi => by
    obtain ⟨h1, rfl⟩ := rangeD_get n lo i x hi
    refine ⟨h1, fun u H' y => ?_⟩
    obtain ⟨rfl, rfl⟩ := y
    exact ⟨F', Same.refl _, G, rep_int⟩
  stop := fun W F' A' m σ H sF p G _ => by
    rw [rangeD_len]
    exact Nat.le_refl n
def small62 (i : Int) : Prop := -(2 ^ 62) ≤ i ∧ i < 2 ^ 62
def dRange1 (ts : DA) : DI := fun m Q => ts m fun vs m1 => match vs with
  | [.d (.int j)] => small62 j ∧ Q (rangeD 0 j.toNat) none m1
  | _ => False
def dRange2 (ts : DA) : DI := fun m Q => ts m fun vs m1 => match vs with
  | [.d (.int i), .d (.int j)] => (small62 i ∧ small62 j) ∧ Q (rangeD i (j - i).toNat) none m1
  | _ => False
variable {ts : DA}
theorem rv1 {K : PySem.W.Frag} {F : Hp} {A : List Addr} {x : Vl} {us : List V} (r : RepVs K F A [x] us) : ∃ u, us = [u] ∧ RepV K F A x u := by
  obtain ⟨u, r', rfl, h1, h2⟩ := r
  have e : r' = [] := h2
  rw [e]
  exact ⟨u, rfl, h1⟩
theorem rv2 {K : PySem.W.Frag} {F : Hp} {A : List Addr} {x y : Vl} {us : List V} (r : RepVs K F A [x, y] us) : ∃ u v, us = [u, v] ∧ RepV K F A x u ∧ RepV K F A y v := by
  obtain ⟨u, r', rfl, h1, h2⟩ := r
  obtain ⟨v, rfl, h3⟩ := rv1 h2
  exact ⟨u, v, rfl, h1, h3⟩
theorem ji_range1 {a : Expr} {p pos : Pos} (hg : Gl X "range") (hm : X.mg "range" = none) (ha : JA X [a] ts) (hs : starEach [a] X.env = [(false, eval a X.env)] := by rfl) : JI X tg (.Call (.Name "range" p) [a] [] pos) (dRange1 ts) := by
  refine (pi_range1 hg hm ha hs).imp fun σ H R hh => ?_
  obtain ⟨W, F, A, m, Qd, G, h, c⟩ := hh
  refine ⟨W, F, A, m, _, G, h, fun F1 A1 vs m1 H1 s1 p1 G1 q1 us r1 => ?_⟩
  split at q1
  · rename_i j
    obtain ⟨u, rfl, ru⟩ := rv1 r1
    have e : u = .int j := repB_int (H := H1) ru
    rw [e]
    exact ⟨j, rfl, q1.1.1, q1.1.2, c F1 A1 _ none m1 H1 s1 p1 G1 q1.2 _ (walks_range 0 j.toNat)⟩
  · exact q1.elim
theorem ji_range2 {a b : Expr} {p pos : Pos} (hg : Gl X "range") (hm : X.mg "range" = none) (ha : JA X [a, b] ts) (hs : starEach [a, b] X.env = [(false, eval a X.env), (false, eval b X.env)] := by rfl) (hs2 : starEach [b] X.env = [(false, eval b X.env)] := by rfl)
    : JI X tg (.Call (.Name "range" p) [a, b] [] pos) (dRange2 ts) := by
  refine (pi_range2 hg hm ha hs hs2).imp fun σ H R hh => ?_
  obtain ⟨W, F, A, m, Qd, G, h, c⟩ := hh
  refine ⟨W, F, A, m, _, G, h, fun F1 A1 vs m1 H1 s1 p1 G1 q1 us r1 => ?_⟩
  split at q1
  · rename_i i j
    obtain ⟨u, w, rfl, ru, rw'⟩ := rv2 r1
    have e : u = .int i := repB_int (H := H1) ru
    have e' : w = .int j := repB_int (H := H1) rw'
    rw [e, e']
    exact ⟨i, j, rfl, ⟨q1.1.1.1, q1.1.1.2, q1.1.2.1, q1.1.2.2⟩, c F1 A1 _ none m1 H1 s1 p1 G1 q1.2 _ (walks_range i (j - i).toNat)⟩
  · exact q1.elim

def enumD : Nat → List Dt → List Dt
  | _, [] => []
  | n, x :: xs => .tup [.int n, x] :: enumD (n + 1) xs
theorem enumD_len : ∀ (xs : List Dt) (n : Nat), (enumD n xs).length = xs.length
  | [], _ => rfl
  | x :: xs, n => by
    unfold enumD
    rw [List.length_cons, List.length_cons, enumD_len xs]
theorem enumD_get : ∀ (xs : List Dt) (n i : Nat) (y : Dt), (enumD n xs)[i]? = some y → ∃ x, xs[i]? = some x ∧ y = .tup [.int ((n + i : Nat) : Int), x]
  | [], _, i, y, h => by
    unfold enumD at h
    simp at h
  | x :: xs, n, 0, y, h => by
    unfold enumD at h
    have e := Option.some.inj h
    exact ⟨x, rfl, by rw [← e]; rfl⟩
  | x :: xs, n, i + 1, y, h => by
    unfold enumD at h
    obtain ⟨z, h1, h2⟩ := enumD_get xs (n + 1) i y h
    exact ⟨z, h1, by rw [h2, show n + 1 + i = n + (i + 1) by omega]⟩
theorem tup_laid {K : PySem.W.Frag} {W F : Hp} {A : List Addr} {m : M} {σ : L2.St} {H : Hp} {T : Addr} {ds : List Dt} {vs : List V} (G : Good K W F A m σ H) (n : H T = none) (r : Reps K F ds vs) : ∃ F2, Same F F2 ∧ Good K W F2 A m σ (upd H T (.tup vs)) ∧ Rep K F2 (.tup ds) (.ref T) := by
  have s := same_upd (o := .tup vs) (G.ext.free n)
  refine ⟨upd F T (.tup vs), s, G.laid n, ?_⟩
  simp only [Rep]
  exact ⟨T, vs, rfl, SqT.of upd_same, Reps.mono s r⟩
theorem walks_enum {K : PySem.W.Frag} {F : Hp} {A : List Addr} {a : Addr} {vs : List V} {xs : List Dt} (s : SqL K F a vs) (r : Reps K F xs vs) : Walks K (Ite K a) F A (enumD 0 xs) none where
  go := fun W F' A' m σ H i x sF p G _ hi => by
    obtain ⟨y, hy, rfl⟩ := enumD_get xs 0 i x hi
    obtain ⟨v, hv, rv⟩ := r.get hy
    have sq : SqL K H a vs := (sF.trans G.ext).seq s
    refine ⟨⟨vs, v, sq, hv⟩, fun u H' y => ?_⟩
    obtain ⟨T, w, rfl, nT, rfl, y⟩ := y
    have e := (y vs sq).symm.trans hv
    cases e
    rw [Nat.zero_add]
    exact tup_laid G nT (.cons rep_int (.cons (Rep.mono sF rv) .nil))
  stop := fun W F' A' m σ H sF p G _ => ⟨vs, (sF.trans G.ext).seq s, by rw [enumD_len, r.length]; exact Nat.le_refl _⟩
def dEnum (ts : DA) : DI := fun m Q => ts m fun vs m1 => match vs with
  | [.d (.lst xs)] => Q (enumD 0 xs) none m1
  | _ => False
theorem ji_enum {e : Expr} {p pos tpos : Pos} {elts : List Expr} {kk : Nat} (hg : Gl X "enumerate") (hm : X.mg "enumerate" = none) (ha : JA X [e] ts) (hs : starEach [e] X.env = [(false, eval e X.env)] := by rfl) :
    JI X (.Tuple elts kk tpos) (.Call (.Name "enumerate" p) [e] [] pos) (dEnum ts) := by
  refine (pi_enum hg hm ha hs).imp fun σ H R hh => ?_
  obtain ⟨W, F, A, m, Qd, G, h, c⟩ := hh
  refine ⟨W, F, A, m, _, G, h, fun F1 A1 vs m1 H1 s1 p1 G1 q1 us r1 => ?_⟩
  split at q1
  · rename_i xs
    obtain ⟨u, rfl, ru⟩ := rv1 r1
    have r' : Rep X.K F1 (.lst xs) u := ru
    simp only [Rep] at r'
    obtain ⟨a, ws, rfl, hs, rs⟩ := r'
    exact ⟨a, ws, rfl, .inl (rd_mono G1.ext hs), c F1 A1 _ none m1 H1 s1 p1 G1 q1 _ (walks_enum (.inl hs) rs)⟩
  · exact q1.elim
end

def dNext : DS := fun E m => E.nx m
def dSeq (t u : DS) : DS := fun E m => t ⟨fun m1 => u E m1, E.rt, E.bk, E.ct⟩ m
def dRet (t : DE) : DS := fun E m => t m fun v m1 => E.rt v m1
def dDo (t : DE) : DS := fun E m => t m fun _ m1 => E.nx m1
def dSet (i : Nat) (t : DE) : DS := fun E m => t m fun v m1 => E.nx ⟨m1.sl.set i (some v), m1.st⟩
def dAsg (t : DE) (g : Tgt) : DS := fun E m => t m fun v m1 => tgD g v m1 E.nx
def dIfS (c : DT) (t u : DS) : DS := fun E m => c m fun b m1 => if b = true then t E m1 else u E m1
def dWhile (c : DT) (b : DS) : DS := fun E m => ∃ W : Nat → M → Prop, (∃ n, W n m) ∧ ∀ n m, W n m →
  c m fun k m1 => if k = true then b ⟨fun m2 => ∃ n', n' < n ∧ W n' m2, E.rt, E.nx, fun m2 => ∃ n', n' < n ∧ W n' m2⟩ m1 else E.nx m1
def dLoop (g : Tgt) (b : DS) (all : List Dt) (lk : Option Nat) (E : DEnds) : List Dt → M → Prop
  | [], m => lockOk lk all m ∧ E.nx m
  | x :: xs, m => lockOk lk all m ∧ tgD g (.d x) m fun m1 => b ⟨dLoop g b all lk E xs, E.rt, E.nx, dLoop g b all lk E xs⟩ m1
def dFor (di : DI) (g : Tgt) (b : DS) : DS := fun E m => di m fun xs lk m1 => dLoop g b xs lk E xs m1
section
variable {X : Cx} {st : Stmt} {rest : List Stmt} {t u : DS} {e : Expr} {te : DE} {pos : Pos}
theorem js_nil : JSs X [] dNext := pss_nil.imp fun D σ H ⟨W, F, A, m, E, G, h, c⟩ => c.nx F A m σ H (Same.refl _) (pre_refl _) G h
theorem lift_seq {D : Ends} {σ : L2.St} {H : Hp} (h : liftS X.K (dSeq t u) D σ H) : tSeq (liftS X.K t) (liftS X.K u) D σ H := by
  obtain ⟨W, F, A, m, E, G, h, c⟩ := h
  exact ⟨W, F, A, m, _, G, h, ⟨fun F1 A1 m1 σ1 H1 s1 p1 G1 q1 => ⟨W, F1, A1, m1, E, G1, q1, c.mono s1 p1⟩, c.rt, c.bk, c.ct⟩⟩
theorem js_cons (h1 : JS X st t) (h2 : JSs X rest u) : JSs X (st :: rest) (dSeq t u) := (pss_cons h1 h2).imp fun _ _ _ h => lift_seq h
theorem js_one (h1 : JS X st t) : JSs X [st] t := pss_one h1
theorem js_ret (he : JE X e te) : JS X (.Return (some e) pos) (dRet te) := by
  refine (ps_ret he).imp fun D σ H hh => ?_
  obtain ⟨W, F, A, m, E, G, h, c⟩ := hh
  exact ⟨W, F, A, m, _, G, h, fun F1 A1 v m1 H1 s1 p1 G1 q1 u r1 => c.rt F1 A1 m1 σ H1 v u s1 p1 G1 r1 q1⟩
theorem js_do (he : JE X e te) (hs : swapsWith e none pos.line X.env = pure false := by rfl) : JS X (.Expr e pos) (dDo te) := by
  refine (ps_expr he hs).imp fun D σ H hh => ?_
  obtain ⟨W, F, A, m, E, G, h, c⟩ := hh
  exact ⟨W, F, A, m, _, G, h, fun F1 A1 v m1 H1 s1 p1 G1 q1 u r1 => c.nx F1 A1 m1 σ H1 s1 p1 G1 q1⟩
theorem lift_set {i : Nat} {D : Ends} {σ : L2.St} {H : Hp} (h : liftS X.K (dSet i te) D σ H) : tAsg (lift X.K te) (gName i) D σ H := by
  obtain ⟨W, F, A, m, E, G, h, c⟩ := h
  exact ⟨W, F, A, m, _, G, h, fun F1 A1 v m1 H1 s1 p1 G1 q1 u r1 => c.nx F1 A1 _ _ H1 s1 p1 (G1.store r1) q1⟩
theorem js_set {i : Nat} {x : Str} {pos' : Pos} (hN : X.N.Nodup) (hi : X.N[i]? = some x) (hx : Loc X.env.scope x) (he : JE X e te) (hs : swapsWith e (some (.Name x pos')) pos.line X.env = pure false := by rfl) (hf : X.fn x = true ∨ X.env.scope.names.lookup x = some .local := by first | exact .inl rfl | exact .inr rfl | assumption) :
    JS X (.Assign [.Name x pos'] e pos) (dSet i te) := (ps_set hN hi hx he hs hf).imp fun _ _ _ h => lift_set h
theorem js_asg {tg : Expr} {g : Tgt} (he : JE X e te) (hg : PG X tg (tgH X.K g)) (hs : swapsWithSole [tg] e pos.line X.env = pure false := by rfl) (hw : swappedStores [tg] e X.env = pure none := by rfl)
    (h1 : (assignEach [tg] X.env).map (·.2) = [assign tg X.env] := by rfl) : JS X (.Assign [tg] e pos) (dAsg te g) := by
  refine (ps_asg he hg hs hw h1).imp fun D σ H hh => ?_
  obtain ⟨W, F, A, m, E, G, h, c⟩ := hh
  exact ⟨W, F, A, m, _, G, h, fun F1 A1 v m1 H1 s1 p1 G1 q1 u r1 => tg_ok G1 r1 q1 fun m' σ' G' _ q' => c.nx F1 A1 m' σ' H1 s1 p1 G' q'⟩
def dPar (i j : Nat) (ts : DA) : DS := fun E m => ts m fun vs m1 => match vs with
  | [v, w] => E.nx ⟨(m1.sl.set i (some v)).set j (some w), m1.st⟩
  | _ => False
theorem js_par {i j : Nat} {x y : Str} {a b : Expr} {ts : DA} {px py pt : Pos} {kt k2 pt2} (hc : X.calm = true) (hN : X.N.Nodup) (hi : X.N[i]? = some x) (hj : X.N[j]? = some y) (hij : i ≠ j)
    (hx : X.env.scope.names.lookup x = some .local) (hy : X.env.scope.names.lookup y = some .local) (ha : JA X [a, b] ts)
    (hw : swappedStores [.Tuple [.Name x px, .Name y py] kt pt] (.Tuple [a, b] k2 pt2) X.env = pure (some [x, y]) := by rfl)
    (hs : swapsWithSole [.Tuple [.Name x px, .Name y py] kt pt] (.Tuple [a, b] k2 pt2) pos.line X.env = pure false := by rfl) :
    JS X (.Assign [.Tuple [.Name x px, .Name y py] kt pt] (.Tuple [a, b] k2 pt2) pos) (dPar i j ts) := by
  refine (ps_par hc hN hi hj hij hx hy ha hw hs).imp fun D σ H hh => ?_
  obtain ⟨W, F, A, m, E, G, h, c⟩ := hh
  refine ⟨W, F, A, m, _, G, h, fun F1 A1 vs m1 H1 s1 p1 G1 q1 us r1 => ?_⟩
  split at q1
  · rename_i v w
    obtain ⟨a1, b1, rfl, ra, rb⟩ := rv2 r1
    exact ⟨a1, b1, rfl, c.nx F1 A1 _ _ H1 s1 p1 ((G1.store ra).store rb) q1⟩
  · exact q1.elim
theorem js_if {c : Expr} {a b : List Stmt} {tc : DT} (hc : JT X c tc) (ha : JSs X a t) (hb : JSs X b u) : JS X (.If c a b pos) (dIfS tc t u) := by
  refine (ps_if hc ha hb).imp fun D σ H hh => ?_
  obtain ⟨W, F, A, m, E, G, h, c⟩ := hh
  refine ⟨W, F, A, m, _, G, h, fun F1 A1 v m1 H1 s1 p1 G1 q1 => ?_⟩
  cases v with
  | true => exact ⟨W, F1, A1, m1, E, G1, q1, c.mono s1 p1⟩
  | false => exact ⟨W, F1, A1, m1, E, G1, q1, c.mono s1 p1⟩
theorem js_while {c : Expr} {body : List Stmt} {tc : DT} {tb : DS} (hp : PassesOwn (model X.prog X.w) X.A X.env X.xe) (hc : JT X c tc) (hb : JSs X body tb) : JS X (.While c body [] pos) (dWhile tc tb) := by
  refine (ps_while hp hc hb).imp fun D σ H hh => ?_
  obtain ⟨W, F, A, m, E, G, h, c⟩ := hh
  obtain ⟨Wi, ⟨n0, w0⟩, turn⟩ := h
  refine ⟨fun n σ' H' => ∃ F' A' m', Same F F' ∧ A <+: A' ∧ Good X.K W F' A' m' σ' H' ∧ Wi n m', ⟨n0, F, A, m, Same.refl _, pre_refl _, G, w0⟩, ?_⟩
  rintro n σ1 H1 ⟨F1, A1, m1, s1, p1, G1, w1⟩
  refine ⟨W, F1, A1, m1, _, G1, turn n m1 w1, fun F2 A2 k m2 H2 s2 p2 G2 q2 => ?_⟩
  cases k with
  | false => exact c.nx F2 A2 m2 _ H2 (s1.trans s2) (p1.trans p2) G2 q2
  | true =>
    refine ⟨fun σ' H' => ∃ F' A' m', Same F F' ∧ A <+: A' ∧ Good X.K W F' A' m' σ' H' ∧ ∃ n', n' < n ∧ Wi n' m', fun σ' H' hN => ?_, ?_⟩
    · obtain ⟨F', A', m', s', p', G', n', hn, w'⟩ := hN
      exact ⟨n', hn, F', A', m', s', p', G', w'⟩
    · have c' := c.mono (s1.trans s2) (p1.trans p2)
      refine ⟨W, F2, A2, m2, _, G2, q2, ⟨fun F3 A3 m3 σ3 H3 s3 p3 G3 q3 => ⟨F3, A3, m3, (s1.trans s2).trans s3, (p1.trans p2).trans p3, G3, q3⟩, c'.rt, c'.nx, fun F3 A3 m3 σ3 H3 s3 p3 G3 q3 => ⟨F3, A3, m3, (s1.trans s2).trans s3, (p1.trans p2).trans p3, G3, q3⟩⟩⟩
theorem js_for {iter tg : Expr} {body : List Stmt} {di : DI} {g : Tgt} {tb : DS} (hp : PassesOwn (model X.prog X.w) X.A X.env X.xe) (hc : X.calm = true) (hi : JI X tg iter di) (hg : PG X tg (tgH X.K g)) (hb : JSs X body tb)
    (hs : ∀ x, foldedSetIterable iter X.env x = pure x := by intro _; rfl) : JS X (.For tg iter body [] pos) (dFor di g tb) := by
  refine (ps_for hp hc hi hg hb hs).imp fun D σ H hh => ?_
  obtain ⟨W, F, A, m, E, G, h, c⟩ := hh
  refine ⟨W, F, A, m, _, G, h, fun F1 A1 xs lk m1 H1 s1 p1 G1 q1 J w => ?_⟩
  refine ⟨fun i n σ' H' => ∃ F' A' m', Same F1 F' ∧ A1 <+: A' ∧ Good X.K W F' A' m' σ' H' ∧ i + n = xs.length ∧ dLoop g tb xs lk E (xs.drop i) m',
    ⟨xs.length, F1, A1, m1, Same.refl _, pre_refl _, G1, Nat.zero_add _, q1⟩, ?_⟩
  rintro i n σ2 H2 ⟨F2, A2, m2, s2, p2, G2, en, q2⟩
  by_cases hlt : i < xs.length
  · refine .inr ?_
    have ed : xs.drop i = xs[i] :: xs.drop (i + 1) := List.drop_eq_getElem_cons hlt
    rw [ed] at q2
    obtain ⟨hl, q2⟩ : lockOk lk xs m2 ∧ tgD g (.d xs[i]) m2 fun m1 => tb ⟨dLoop g tb xs lk E (xs.drop (i + 1)), E.rt, E.nx, dLoop g tb xs lk E (xs.drop (i + 1))⟩ m1 := q2
    obtain ⟨hgo, hy⟩ := w.go W F2 A2 m2 σ2 H2 i xs[i] s2 p2 G2 hl (List.getElem?_eq_getElem hlt)
    refine ⟨hgo, fun σ' H' => ∃ F' A' m', Same F1 F' ∧ A1 <+: A' ∧ Good X.K W F' A' m' σ' H' ∧ dLoop g tb xs lk E (xs.drop (i + 1)) m', fun σ' H' hN => ?_, fun v H3 y => ?_⟩
    · obtain ⟨F', A', m', s', p', G', q'⟩ := hN
      exact ⟨n - 1, by omega, F', A', m', s', p', G', by omega, q'⟩
    · obtain ⟨F3, s3, G3, r3⟩ := hy v H3 y
      refine tg_ok G3 (v := .d xs[i]) r3 q2 fun m' σ' G' _ q' => ?_
      have c' := c.mono (s1.trans (s2.trans s3)) (p1.trans p2)
      exact ⟨W, F3, A2, m', _, G', q', ⟨fun F4 A4 m4 σ4 H4 s4 p4 G4 q4 => ⟨F4, A4, m4, s2.trans (s3.trans s4), p2.trans p4, G4, q4⟩, c'.rt, c'.nx, fun F4 A4 m4 σ4 H4 s4 p4 G4 q4 => ⟨F4, A4, m4, s2.trans (s3.trans s4), p2.trans p4, G4, q4⟩⟩⟩
  · have e : i = xs.length := by omega
    subst e
    rw [List.drop_length] at q2
    obtain ⟨hl, q2⟩ : lockOk lk xs m2 ∧ E.nx m2 := q2
    exact .inl ⟨w.stop W F2 A2 m2 σ2 H2 s2 p2 G2 hl, c.nx F2 A2 m2 σ2 H2 (s1.trans s2) (p1.trans p2) G2 q2⟩
end
end RT

set_option maxRecDepth 100000
set_option maxHeartbeats 4000000
namespace RT
open PySem PySem.Spec PyProof.Rows L2
section
variable {X : Cx} {a b e : Expr} {es : List Expr} {ta tb t : DE} {ts : DA} {pos : Pos}

mutual
def toPy : Dt → PyData
  | .non => .none
  | .bl b => .bool b
  | .int i => .int i
  | .str s => .str s
  | .tup ds => .tuple (toPys ds)
  | .lst ds => .list (toPys ds)
def toPys : List Dt → List PyData
  | [] => []
  | d :: ds => toPy d :: toPys ds
end
mutual
theorem dp_of {K : PySem.W.Frag} {H : Hp} : ∀ {d : Dt} {v : V}, Rep K H d v → Dp K H v (toPy d)
  | .non, v, h => by
    simp only [Rep] at h
    rw [h]
    unfold toPy
    exact .non
  | .bl b, v, h => by
    simp only [Rep] at h
    rw [h]
    unfold toPy
    exact .bl b
  | .int i, v, h => by
    simp only [Rep] at h
    rw [h]
    unfold toPy
    exact .int i
  | .str s, v, h => by
    simp only [Rep] at h
    rw [h]
    unfold toPy
    exact .str s
  | .tup ds, v, h => by
    simp only [Rep] at h
    obtain ⟨a, vs, rfl, s, r⟩ := h
    unfold toPy
    exact .tup s (dps_of r)
  | .lst ds, v, h => by
    simp only [Rep] at h
    obtain ⟨a, vs, rfl, s, r⟩ := h
    unfold toPy
    exact .lst (.inl s) (dps_of r)
theorem dps_of {K : PySem.W.Frag} {H : Hp} : ∀ {ds : List Dt} {vs : List V}, Reps K H ds vs → DpAll K H vs (toPys ds)
  | [], vs, h => by
    simp only [Reps] at h
    rw [h]
    unfold toPys
    exact .nil
  | d :: ds, vs, h => by
    simp only [Reps] at h
    obtain ⟨v, r, rfl, h1, h2⟩ := h
    unfold toPys
    exact .cons (dp_of h1) (dps_of h2)
end
theorem rep_up {K : PySem.W.Frag} {F H : Hp} (s : Same F H) : ∀ {x : Dt} {u : V}, RepB K F H x u → Rep K H x u
  | .lst ds, u, h => by
    obtain ⟨a, vs, rfl, q, r⟩ := h
    simp only [Rep]
    exact ⟨a, vs, rfl, q, Reps.mono s r⟩
  | .tup ds, u, h => Rep.mono s (d := .tup ds) h
  | .non, u, h => Rep.mono s h
  | .bl _, u, h => Rep.mono s h
  | .int _, u, h => Rep.mono s h
  | .str _, u, h => Rep.mono s h
def eqD (x y : Dt) : Bool := PyData.eqv (toPy x) (toPy y)
def shD (x : Dt) : Prop := SeqAt.shaped (toPy x) = true
def rEq : DR2 := fun x y P => shD x ∧ shD y ∧ P (.bl (eqD x y))
def rNe : DR2 := fun x y P => shD x ∧ shD y ∧ P (.bl (!eqD x y))
theorem o_eq {k : Nat} (hr : GRoom k X.A) : OpD X (compareOp .Eq) rEq := ⟨_, op_eqD hr.hu, fun W F A m σ H x y u v P Q G rx ry q c =>
  ⟨_, _, dp_of (rep_up G.ext rx), dp_of (rep_up G.ext ry), q.1, q.2.1, c F H _ _ (Same.refl _) G rep_bl q.2.2⟩⟩
theorem o_ne {k : Nat} (hr : GRoom k X.A) : OpD X (compareOp .NotEq) rNe := ⟨_, op_neD hr.hu, fun W F A m σ H x y u v P Q G rx ry q c =>
  ⟨_, _, dp_of (rep_up G.ext rx), dp_of (rep_up G.ext ry), q.1, q.2.1, c F H _ _ (Same.refl _) G rep_bl q.2.2⟩⟩

theorem op_catR : OpR X (binaryOp .Add) (fun x y H Q => ∃ l b xs zs, x = .ref l ∧ y = .ref b ∧ Rd H l (.lst xs) ∧ Rd H b (.lst zs) ∧ xs.length + zs.length ≤ sizeLine ∧ ∀ p, H p = none → Q (.ref p) (upd H p (.lst (xs ++ zs)))) := by
  intro pins s σ H x y v u Q I rx ry h
  obtain ⟨l, b, xs, zs, rfl, rfl, hH, hB, hz, q⟩ := h
  cases rx
  cases ry
  obtain ⟨z, its, n, r, e⟩ := hH.ok I.hok
  obtain ⟨z2, its2, n2, r2, e2⟩ := hB.ok I.hok
  refine PySem.P.add_list e e2 ?_ (by rw [List.size_toArray, List.size_toArray, ← r.length, ← r2.length]; omega)
  have ea : its.toArray ++ its2.toArray = (its ++ its2).toArray := by simp
  rw [ea]
  exact ⟨.ref _, _, I.lnew (t' := s.toks) (r.append r2) (by rw [List.length_append]; omega), rfl, q _ I.fresh⟩
def rCatT : DR2 := fun x y P => match x, y with
  | .tup xs, .tup ys => xs.length + ys.length ≤ sizeLine ∧ P (.tup (xs ++ ys))
  | _, _ => False
theorem reps_nil {K : PySem.W.Frag} {F : Hp} {ds : List Dt} {vs : List V} (r : Reps K F ds vs) (h : vs = []) : ds = [] := by
  have := r.length
  rw [h] at this
  exact List.eq_nil_of_length_eq_zero this
theorem o_catT : OpD X (binaryOp .Add) rCatT := ⟨_, op_catA, fun W F A m σ H x y u v P Q G rx ry q c => by
  unfold rCatT at q
  split at q
  · rename_i xs ys
    obtain ⟨l, vs, rfl, hl, rl⟩ := repB_tup rx
    obtain ⟨b, ws, rfl, hb, rb⟩ := repB_tup ry
    refine ⟨l, b, vs, ws, rfl, rfl, seqT_mono G.ext hl, seqT_mono G.ext hb, by rw [← rl.length, ← rb.length]; exact q.1, fun e => ?_, fun e e2 => ?_, fun _ _ p np => ?_⟩
    · have e1 := reps_nil rl e
      subst e1
      exact c F H _ _ (Same.refl _) G ry q.2
    · have e1 := reps_nil rb e2
      subst e1
      have q2 := q.2
      rw [List.append_nil] at q2
      exact c F H _ _ (Same.refl _) G rx q2
    · obtain ⟨F2, s2, G2, r2⟩ := tup_laid G np (rl.append rb)
      exact c F2 _ _ _ s2 G2 r2 q.2
  · exact q.elim⟩

def onVs (m : M) : List Vl → (List Dt → Prop) → Prop
  | [], k => k []
  | v :: r, k => onV m v fun x => onVs m r fun xs => k (x :: xs)
def RepBs (K : PySem.W.Frag) (F H : Hp) : List Dt → List V → Prop
  | [], us => us = []
  | d :: ds, us => ∃ u r, us = u :: r ∧ RepB K F H d u ∧ RepBs K F H ds r
theorem onVs_elim {K : PySem.W.Frag} {W F : Hp} {A : List Addr} {m : M} {σ : L2.St} {H : Hp} (G : Good K W F A m σ H) : ∀ {vs : List Vl} {us : List V} {k : List Dt → Prop}, RepVs K F A vs us → onVs m vs k → ∃ xs, RepBs K F H xs us ∧ k xs
  | [], us, k, r, h => by
    have e : us = [] := r
    exact ⟨[], e, h⟩
  | v :: vs, us, k, r, h => by
    obtain ⟨u, us', rfl, r1, r2⟩ := r
    obtain ⟨x, ex, h⟩ := onV_elim h
    obtain ⟨xs, rs, h⟩ := onVs_elim G r2 h
    exact ⟨x :: xs, ⟨u, us', rfl, G.view r1 ex, rs⟩, h⟩
abbrev DRB := List Dt → (Dt → Prop) → Prop
def dBi (r : DRB) (ts : DA) : DE := fun m Q => ts m fun vs m1 => onVs m1 vs fun xs => r xs fun z => Q (.d z) m1
def BiD (X : Cx) (f : Value) (r : DRB) : Prop := ∃ R, CallR X f R ∧ ∀ (W F : Hp) (A : List Addr) (m : M) (σ : L2.St) (H : Hp) (xs : List Dt) (us : List V) (P : Dt → Prop) (Q : VK), Good X.K W F A m σ H → RepBs X.K F H xs us → r xs P →
    (∀ F' H' z w, Same F F' → Good X.K W F' A m σ H' → Rep X.K F' z w → P z → Q w H') → R us H Q
theorem lift_bi {K : PySem.W.Frag} {R : List V → Hp → VK → Prop} {r : DRB} (hR : ∀ (W F : Hp) (A : List Addr) (m : M) (σ : L2.St) (H : Hp) (xs : List Dt) (us : List V) (P : Dt → Prop) (Q : VK), Good K W F A m σ H → RepBs K F H xs us → r xs P →
    (∀ F' H' z w, Same F F' → Good K W F' A m σ H' → Rep K F' z w → P z → Q w H') → R us H Q) {σ : L2.St} {H : Hp} {Q : VK} (h : lift K (dBi r ts) σ H Q) : tCB R (liftA K ts) σ H Q := by
  obtain ⟨W, F, A, m, Qd, G, h, c⟩ := h
  refine ⟨W, F, A, m, _, G, h, fun F1 A1 vs m1 H1 s1 p1 G1 q1 us r1 => ?_⟩
  obtain ⟨xs, rs, q⟩ := onVs_elim G1 r1 q1
  exact hR W F1 A1 m1 σ H1 xs us _ Q G1 rs q fun F' H' z w s' G' rz pz => c F' A1 (.d z) m1 H' (s1.trans s') p1 G' pz w rz
theorem je_bi {x : Str} {id : String} {r : DRB} {p : Pos} (hc : BiD X (.builtin id) r) (hg : Gl X x) (hm : X.mg x = none) (hv : bootBuiltins x = some (.builtin id)) (ha : JA X (e :: es) ts) (hn : x ≠ "__name__" := by decide) (hdb : (x == ("__debug__" : Str)) = false := by decide)
    (he : starEach (e :: es) X.env = (false, eval e X.env) :: starEach es X.env := by rfl) (hpl : (backTo pos (starEach es X.env)).any (·.1) = false := by rfl) : JE X (.Call (.Name x p) (e :: es) [] pos) (dBi r ts) := by
  obtain ⟨R, hC, hR⟩ := hc
  exact (pe_callB hC hg hm hv ha hn hdb he hpl).imp fun _ _ _ h => lift_bi hR h
theorem je_bty {x : Str} {T : String} {r : DRB} {p : Pos} (hc : BiD X (.type T) r) (hg : Gl X x) (hm : X.mg x = none) (hv : bootBuiltins x = some (.type T)) (ha : JA X (e :: es) ts) (hn : x ≠ "__name__" := by decide) (hdb : (x == ("__debug__" : Str)) = false := by decide)
    (he : starEach (e :: es) X.env = (false, eval e X.env) :: starEach es X.env := by rfl) (hpl : (backTo pos (starEach es X.env)).any (·.1) = false := by rfl) : JE X (.Call (.Name x p) (e :: es) [] pos) (dBi r ts) := by
  obtain ⟨R, hC, hR⟩ := hc
  exact (pe_callTy hC hg hm hv ha hn hdb he hpl).imp fun _ _ _ h => lift_bi hR h
theorem rb1 {K : PySem.W.Frag} {F H : Hp} {x : Dt} {us : List V} (r : RepBs K F H [x] us) : ∃ u, us = [u] ∧ RepB K F H x u := by
  obtain ⟨u, r', rfl, h1, h2⟩ := r
  have e : r' = [] := h2
  rw [e]
  exact ⟨u, rfl, h1⟩
def bLen : DRB := fun xs P => match xs with
  | [.lst ys] => P (.int ys.length)
  | [.tup ys] => P (.int ys.length)
  | [.str s] => s.length ≤ sizeLine ∧ P (.int s.length)
  | _ => False
theorem b_len : BiD X (.builtin "len") bLen := ⟨_, L2.call_len, fun W F A m σ H xs us P Q G rs q c => by
  unfold bLen at q
  split at q
  · obtain ⟨u, rfl, ru⟩ := rb1 rs
    obtain ⟨l, vs, rfl, hl, rl⟩ := ru
    rw [rl.length] at q
    exact ⟨_, vs.length, rfl, .inl ⟨vs, .inl hl, rfl⟩, c F H _ _ (Same.refl _) G rep_int q⟩
  · obtain ⟨u, rfl, ru⟩ := rb1 rs
    obtain ⟨l, vs, rfl, hl, rl⟩ := repB_tup ru
    rw [rl.length] at q
    exact ⟨_, vs.length, rfl, .inr ⟨vs, seqT_mono G.ext hl, rfl⟩, c F H _ _ (Same.refl _) G rep_int q⟩
  · obtain ⟨u, rfl, ru⟩ := rb1 rs
    rw [repB_str ru]
    exact ⟨_, _, rfl, ⟨q.1, rfl⟩, c F H _ _ (Same.refl _) G rep_int q.2⟩
  · exact q.elim⟩
def bAbs : DRB := fun xs P => match xs with
  | [.int i] => P (.int (if i < 0 then -i else i))
  | _ => False
theorem b_abs : BiD X (.builtin "abs") bAbs := ⟨_, L2.call_abs, fun W F A m σ H xs us P Q G rs q c => by
  unfold bAbs at q
  split at q
  · obtain ⟨u, rfl, ru⟩ := rb1 rs
    rw [repB_int ru]
    exact ⟨_, rfl, c F H _ _ (Same.refl _) G rep_int q⟩
  · exact q.elim⟩
def bInt : DRB := fun xs P => match xs with
  | [.int i] => P (.int i)
  | [.bl k] => P (.int (if k then 1 else 0))
  | _ => False
theorem b_int : BiD X (.type "int") bInt := ⟨_, L2.call_int1, fun W F A m σ H xs us P Q G rs q c => by
  unfold bInt at q
  split at q
  · obtain ⟨u, rfl, ru⟩ := rb1 rs
    rw [repB_int ru]
    exact .inl ⟨_, rfl, c F H _ _ (Same.refl _) G rep_int q⟩
  · obtain ⟨u, rfl, ru⟩ := rb1 rs
    rw [repB_bl ru]
    exact .inr ⟨_, rfl, c F H _ _ (Same.refl _) G rep_int q⟩
  · exact q.elim⟩
theorem lst_laid {K : PySem.W.Frag} {W F : Hp} {A : List Addr} {m : M} {σ : L2.St} {H : Hp} {T : Addr} {ds : List Dt} {vs : List V} (G : Good K W F A m σ H) (n : H T = none) (r : Reps K F ds vs) : ∃ F2, Same F F2 ∧ Good K W F2 A m σ (upd H T (.lst vs)) ∧ Rep K F2 (.lst ds) (.ref T) := by
  have s := same_upd (o := .lst vs) (G.ext.free n)
  refine ⟨upd F T (.lst vs), s, G.laid n, ?_⟩
  simp only [Rep]
  exact ⟨T, vs, rfl, Rd.of upd_same, Reps.mono s r⟩

inductive Ty where
  | tuple | int | bool | list | str
def Ty.name : Ty → String
  | .tuple => "tuple"
  | .int => "int"
  | .bool => "bool"
  | .list => "list"
  | .str => "str"
end
end RT

set_option maxRecDepth 100000
set_option maxHeartbeats 4000000
namespace RT
open PySem PySem.Spec PyProof.Rows L2
section
variable {X : Cx} {a b e o : Expr} {es : List Expr} {ta tb t to : DE} {ts : DA} {pos : Pos}

abbrev DO := M → (Option Int → M → Prop) → Prop
def liftO (K : PySem.W.Frag) (t : DO) : TO := fun σ H Q => ∃ W F A m Qd, Good K W F A m σ H ∧ t m Qd ∧ After K W F A σ Qd fun _ _ b H' => Q b H'
abbrev JO (X : Cx) (e : Option Expr) (t : DO) : Prop := PO X e (liftO X.K t)
theorem _root_.L2.PO.imp {X : Cx} {e : Option Expr} {t t' : TO} (h : PO X e t) (f : ∀ σ H Q, t' σ H Q → t σ H Q) : PO X e t' := ⟨fun pins s σ H Q I q => h.run pins s σ H Q I (f _ _ _ q)⟩
def dNoP : DO := fun m Q => Q none m
def dPart (t : DE) : DO := fun m Q => t m fun v m1 => match v with
  | .d (.int i) => Q (some i) m1
  | _ => False
theorem jo_none : JO X none dNoP := po_none.imp fun σ H Q ⟨W, F, A, m, Qd, G, h, c⟩ => c F A none m H (Same.refl _) (pre_refl _) G h
theorem int_elim {v : Vl} {P : Int → Prop} (h : match v with
  | .d (.int i) => P i
  | _ => False) : ∃ i, v = .d (.int i) ∧ P i := by
  split at h
  · exact ⟨_, rfl, h⟩
  · exact h.elim
theorem jo_some (h : JE X e t) : JO X (some e) (dPart t) := by
  refine (po_some h).imp fun σ H Q hh => ?_
  obtain ⟨W, F, A, m, Qd, G, h, c⟩ := hh
  refine ⟨W, F, A, m, _, G, h, fun F1 A1 v m1 H1 s1 p1 G1 q1 u r1 => ?_⟩
  obtain ⟨i, rfl, q⟩ := int_elim q1
  exact ⟨i, repB_int (H := H1) r1, c F1 A1 _ m1 H1 s1 p1 G1 q⟩
def cutD (xs : List Dt) (lo hi : Option Int) : List Dt := (xs.drop (HT.sIx xs.length 0 lo)).take (HT.sIx xs.length xs.length hi - HT.sIx xs.length 0 lo)
theorem reps_cut {K : PySem.W.Frag} {F : Hp} {xs : List Dt} {vs : List V} (r : Reps K F xs vs) (lo hi : Option Int) : Reps K F (cutD xs lo hi) (cutV vs lo hi) := by
  unfold cutD cutV
  rw [r.length]
  exact (r.drop _).take _
theorem cut_whole {K : PySem.W.Frag} {F : Hp} {xs : List Dt} {vs : List V} (r : Reps K F xs vs) {lo hi : Option Int} (h : HT.sIx vs.length 0 lo = 0 ∧ HT.sIx vs.length vs.length hi = vs.length) : cutD xs lo hi = xs := by
  unfold cutD
  rw [r.length, h.1, h.2, ← r.length]
  simp
def dSl (own : Bool) (t : DE) (lo hi : DO) : DE := fun m Q => t m fun v m1 => lo m1 fun l m2 => hi m2 fun h m3 => onV m3 v fun x => match x with
  | .lst xs => if own = true then Q (.c m3.st.length) ⟨m3.sl, m3.st ++ [.lst (cutD xs l h)]⟩ else Q (.d (.lst (cutD xs l h))) m3
  | .tup xs => Q (.d (.tup (cutD xs l h))) m3
  | _ => False
theorem je_sl (own : Bool) {lo hi : Option Expr} {tl th : DO} {p2 : Pos} (he : JE X e t) (hl : JO X lo tl) (hu : JO X hi th) : JE X (.Subscript e (.Slice lo hi none p2) pos) (dSl own t tl th) := by
  refine (pe_slice (sl_list.or sl_tupA) he hl hu).imp fun σ H Q hh => ?_
  obtain ⟨W, F, A, m, Qd, G, h, c⟩ := hh
  refine ⟨W, F, A, m, _, G, h, fun F1 A1 v m1 H1 s1 p1 G1 q1 u r1 => ⟨W, F1, A1, m1, _, G1, q1, fun F2 A2 l m2 H2 s2 p2 G2 q2 => ⟨W, F2, A2, m2, _, G2, q2, fun F3 A3 h m3 H3 s3 p3 G3 q3 => ?_⟩⟩⟩
  obtain ⟨x, ex, q3⟩ := onV_elim q3
  have rx := G3.view (RepV.mono (s2.trans s3) (p2.trans p3) r1) ex
  have s13 := s1.trans (s2.trans s3)
  have p13 := p1.trans (p2.trans p3)
  cases x with
  | lst xs =>
    obtain ⟨a, vs, rfl, hd, rs⟩ := rx
    refine .inl ⟨a, vs, rfl, .inl hd, fun p np => ?_⟩
    have q4 : if own = true then Qd (.c m3.st.length) ⟨m3.sl, m3.st ++ [.lst (cutD xs l h)]⟩ else Qd (.d (.lst (cutD xs l h))) m3 := q3
    have rc := reps_cut rs l h
    cases own with
    | true => exact c F3 (A3 ++ [p]) _ _ _ s13 (p13.trans ⟨[p], rfl⟩) (G3.own np rc) q4 _ ⟨p, by rw [← G3.len]; simp, rfl⟩
    | false =>
      obtain ⟨F4, s4, G4, r4⟩ := lst_laid G3 np rc
      exact c F4 A3 _ m3 _ (s13.trans s4) p13 G4 q4 _ r4
  | tup xs =>
    have rx' := rx
    obtain ⟨a, vs, rfl, hd, rs⟩ := repB_tup rx
    refine .inr ⟨a, vs, rfl, seqT_mono G3.ext hd, fun hw => ?_, fun hw p np => ?_⟩
    · have q4 : Qd (.d (.tup (cutD xs l h))) m3 := q3
      rw [cut_whole rs hw] at q4
      exact c F3 A3 _ m3 _ s13 p13 G3 q4 _ rx'
    · obtain ⟨F4, s4, G4, r4⟩ := tup_laid G3 np (reps_cut rs l h)
      exact c F4 A3 _ m3 _ (s13.trans s4) p13 G4 q3 _ r4
  | _ => exact (show False from q3).elim

abbrev MOp := List Dt → List Dt → (List Dt → Dt → Prop) → Prop
def dMeth (op : MOp) (to : DE) (ts : DA) : DE := fun m Q => to m fun v m1 => match v with
  | .c k => (∃ zs, m1.st[k]? = some (.lst zs)) ∧ ts m1 fun vs m2 => onDs vs fun ys => onC m2.st k fun xs => op xs ys fun xs' r => Q (.d r) ⟨m2.sl, m2.st.set k (.lst xs')⟩
  | _ => False
def MetD (X : Cx) (id : String) (op : MOp) : Prop := ∃ R, MtR X id R ∧ ∀ (F H : Hp) (a : Addr) (xs ys : List Dt) (vs us : List V) (P : List Dt → Dt → Prop) (Q : VK), H a = some (.lst vs) → Reps X.K F xs vs → Reps X.K F ys us → op xs ys P →
  (∀ xs' ws r u, Reps X.K F xs' ws → Rep X.K F r u → P xs' r → Q u (upd H a (.lst ws))) → R (.ref a) us H Q
theorem cell_elim {v : Vl} {P : Nat → Prop} (h : match v with
  | .c k => P k
  | _ => False) : ∃ k, v = .c k ∧ P k := by
  split at h
  · exact ⟨_, rfl, h⟩
  · exact h.elim
theorem je_meth {op : MOp} {id : String} {name : Str} {apos cpos : Pos} (slot : Slot "list" name id) (hty : typeOf (.builtin id) = pure (.type "method_descriptor")) (hm : MetD X id op) (ho : JE X o to) (ha : JA X (e :: es) ts)
    (hbase : attributeBase o name X.env (eval o X.env) = eval o X.env := by rfl)
    (hfew : ((backTo cpos (starEach (e :: es) X.env)).all (fun x => !x.1) && (backToKw cpos (keywordEach [] X.env)).all (fun x => x.1.isSome)
      && decide ((e :: es).length + ([] : List Keyword).length + (if ([] : List Keyword).isEmpty then 0 else 1) < 30)) = true := by rfl)
    (hline : (apos.endLine == cpos.line) = true := by rfl) (hs : starEach (e :: es) X.env = (false, eval e X.env) :: starEach es X.env := by rfl) (hplain : (backTo cpos (starEach es X.env)).any (·.1) = false := by rfl) :
    JE X (.Call (.Attribute o name apos) (e :: es) [] cpos) (dMeth op to ts) := by
  obtain ⟨R, hR, hv⟩ := hm
  refine (pe_bm PySem.F.plainAttrs_list slot hty hR ho ha hbase hfew hline hs hplain).imp fun σ H Q hh => ?_
  obtain ⟨W, F, A, m, Qd, G, h, c⟩ := hh
  refine ⟨W, F, A, m, _, G, h, fun F1 A1 v m1 H1 s1 p1 G1 q1 u r1 => ?_⟩
  obtain ⟨k, rfl, ⟨zs, ez⟩, q1⟩ := cell_elim q1
  obtain ⟨a, ha', rfl⟩ := r1
  obtain ⟨a', ws, h1, h2, _, _⟩ := G1.st k zs ez
  rw [ha'] at h1
  cases h1
  refine ⟨.inl ⟨rfl, _, SqL.of h2⟩, W, F1, A1, m1, _, G1, q1, fun F2 A2 vs m2 H2 s2 p2 G2 q2 us r2 => ?_⟩
  obtain ⟨ys, rfl, q3⟩ := onDs_elim q2
  obtain ⟨xs, ex, q2⟩ := onC_elim q3
  obtain ⟨a', vs', g1, g2, g3, _⟩ := G2.st k xs ex
  obtain ⟨_, hka, ek⟩ := RepV.mono (K := X.K) s2 p2 (show RepV X.K F1 A1 (.c k) (.ref a) from ⟨a, ha', rfl⟩)
  cases ek
  rw [hka] at g1
  cases g1
  exact hv F2 H2 a xs ys vs' us _ Q g2 g3 (reps_of r2) q2 fun xs' ws r u rw' ru pq => c F2 A2 (.d r) _ _ (s1.trans s2) (p1.trans p2) (G2.write ex hka rw') pq u ru
theorem reps1 {K : PySem.W.Frag} {F : Hp} {y : Dt} {us : List V} (r : Reps K F [y] us) : ∃ u, us = [u] ∧ Rep K F y u := by
  simp only [Reps] at r
  obtain ⟨u, r', rfl, h1, rfl⟩ := r
  exact ⟨u, rfl, h1⟩
def mAppend : MOp := fun xs ys P => match ys with
  | [y] => xs.length < sizeLine ∧ P (xs ++ [y]) .non
  | _ => False
theorem m_append : MetD X "list.append" mAppend := ⟨_, mt_append, fun F H a xs ys vs us P Q hH r r' q c => by
  unfold mAppend at q
  split at q
  · obtain ⟨u, rfl, ru⟩ := reps1 r'
    exact ⟨a, vs, u, rfl, rfl, hH, by rw [← r.length]; exact q.1, c _ _ .non .non (r.append (.cons ru .nil)) rep_non q.2⟩
  · exact q.elim⟩
def onJ (o : Option Nat) (P : Nat → Prop) : Prop := match o with
  | some j => P j
  | none => False
theorem onJ_elim {o : Option Nat} {P : Nat → Prop} (h : onJ o P) : ∃ j, o = some j ∧ P j := by
  cases o with
  | none => exact h.elim
  | some j => exact ⟨j, rfl, h⟩
def dSetIx (te to ti : DE) : DS := fun E m => te m fun v m1 => onD v fun d => to m1 fun w m2 => ti m2 fun u m3 => match w with
  | .c k => match u with
    | .d (.int i) => onC m3.st k fun xs => onJ (ixN xs.length i) fun j => E.nx ⟨m3.sl, m3.st.set k (.lst (xs.set j d))⟩
    | _ => False
  | _ => False
theorem js_setIx {te ti : DE} {tg : Expr} (he : JE X e te) (hg : PG X tg (gSub (lift X.K to) (lift X.K ti) rSetL))
    (hs : swapsWithSole [tg] e pos.line X.env = pure false := by rfl) (hw : swappedStores [tg] e X.env = pure none := by rfl)
    (h1 : (assignEach [tg] X.env).map (·.2) = [assign tg X.env] := by rfl) : JS X (.Assign [tg] e pos) (dSetIx te to ti) := by
  refine (ps_asg he hg hs hw h1).imp fun D σ H hh => ?_
  obtain ⟨W, F, A, m, E, G, h, c⟩ := hh
  refine ⟨W, F, A, m, _, G, h, fun F1 A1 v m1 H1 s1 p1 G1 q1 u r1 => ?_⟩
  obtain ⟨d, rfl, q1⟩ := onD_elim q1
  refine ⟨W, F1, A1, m1, _, G1, q1, fun F2 A2 w m2 H2 s2 p2 G2 q2 u2 r2 => ⟨W, F2, A2, m2, _, G2, q2, fun F3 A3 z m3 H3 s3 p3 G3 q3 u3 r3 => ?_⟩⟩
  obtain ⟨k, rfl, q3⟩ := cell_elim q3
  obtain ⟨i, rfl, q3⟩ := int_elim q3
  obtain ⟨xs, ex, q3⟩ := onC_elim q3
  obtain ⟨j, ej, q3⟩ := onJ_elim q3
  · obtain ⟨a, hka, rfl⟩ := RepV.mono s3 p3 r2
    obtain ⟨a', vs, g1, g2, g3, _⟩ := G3.st k xs ex
    rw [hka] at g1
    cases g1
    refine ⟨a, vs, i, j, rfl, repB_int (H := H3) r3, g2, by rw [← g3.length]; exact ej, ?_⟩
    have rd : Rep X.K F3 d u := Rep.mono (s2.trans s3) r1
    exact c.nx F3 A3 _ σ _ (s1.trans (s2.trans s3)) (p1.trans (p2.trans p3)) (G3.write ex hka (Reps.set rd j g3)) q3
end

def dLcGo (sl : List (Option Vl)) (slw : List (Option Vl)) (g : Tgt) (tt : DT) (te : DE) (all : List Dt) (lk : Option Nat) (K : List Dt → M → Prop) : List Dt → List Dt → List Cell → Prop
  | [], acc, st => lockOk lk all ⟨sl, st⟩ ∧ K acc ⟨sl, st⟩
  | x :: xs, acc, st => lockOk lk all ⟨sl, st⟩ ∧ tgD g (.d x) ⟨slw, st⟩ fun m1 => tt m1 fun b m2 => if b = true then te m2 fun v m3 => onD v fun d => acc.length < sizeLine ∧ dLcGo sl slw g tt te all lk K xs (acc ++ [d]) m3.st
    else dLcGo sl slw g tt te all lk K xs acc m2.st
def wipeD (sl : List (Option Vl)) : List Nat → List (Option Vl)
  | [] => sl
  | v :: vs => (wipeD sl vs).set v none
def dYes : DT := fun m Q => Q true m
def dLc (own : Bool) (di : DI) (g : Tgt) (tt : DT) (te : DE) (vs : List Nat) : DE := fun m Q => di m fun xs lk m1 => dLcGo m1.sl (wipeD m1.sl vs) g tt te xs lk (fun acc m2 => if own = true then Q (.c m2.st.length) ⟨m2.sl, m2.st ++ [.lst acc]⟩ else Q (.d (.lst acc)) m2) xs [] m1.st
theorem Good.wipe {K : PySem.W.Frag} {W F : Hp} {A : List Addr} {m : M} {σ : L2.St} {H : Hp} (G : Good K W F A m σ H) : ∀ vs : List Nat, Good K W F A ⟨wipeD m.sl vs, m.st⟩ (L2.wipe σ vs) H
  | [] => G
  | v :: vs => by
    have G1 := G.wipe vs
    refine ⟨G1.ext, G1.hid, G1.dj, by show ((wipeD m.sl vs).set v none).length = ((L2.wipe σ vs).set v none).length; rw [List.length_set, List.length_set]; exact G1.slen, fun i w e => ?_, G1.len, G1.st, G1.nd, G1.tb⟩
    have e' : ((wipeD m.sl vs).set v none)[i]? = some (some w) := e
    rw [List.getElem?_set] at e'
    show ∃ u : V, ((L2.wipe σ vs).set v none)[i]? = some (some u) ∧ _
    rw [List.getElem?_set]
    by_cases hv : v = i
    · rw [if_pos hv] at e'
      split at e' <;> cases e'
    · rw [if_neg hv] at e' ⊢
      exact G1.sl i w e'
section
variable {K : PySem.W.Frag} {W F F' : Hp} {A A' : List Addr} {m : M} {σ : L2.St} {H H' : Hp} {D : Addr} {o o' : HO}
theorem Good.hide (G : Good K W F A m σ H) (n : H D = none) : Good K (upd W D o) F A m σ (upd H D o) := by
  refine ⟨G.ext.trans (same_upd n), same_upd2 G.hid, fun b x e => ?_, G.slen, G.sl, G.len, fun k xs e => ?_, G.nd, fun q hq => ⟨tab_upd (G.tb q hq).1 n, (G.tb q hq).2.1, by rw [upd_ne (tab_some (G.tb q hq).1 n)]; exact (G.tb q hq).2.2⟩⟩
  · by_cases hb : b = D
    · rw [hb]
      exact G.ext.free n
    · rw [upd_ne hb] at e
      exact G.dj b x e
  · obtain ⟨a, vs, h1, h2, h3, h4, h5⟩ := G.st k xs e
    have ne : a ≠ D := ne_of_none h2 n
    exact ⟨a, vs, h1, by rw [upd_ne ne]; exact h2, h3, h4, by rw [upd_ne ne]; exact h5⟩
theorem Good.rehide (G : Good K (upd W D o) F A m σ H) : Good K (upd W D o') F A m σ (upd H D o') := by
  have fD : F D = none := G.dj D o upd_same
  refine ⟨fun b x e => ?_, fun b x e => ?_, fun b x e => ?_, G.slen, G.sl, G.len, fun k xs e => ?_, G.nd, fun q hq => ?_⟩
  rotate_left 4
  · obtain ⟨⟨ps, t1, ok⟩, t2, t3⟩ := G.tb q hq
    have ne : q.2 ≠ D := fun z => by
      rw [z, upd_same] at t3
      cases t3
    exact ⟨⟨ps, by rw [upd_ne ne]; exact t1, ok⟩, t2, by rw [upd_ne ne] at t3 ⊢; exact t3⟩
  · have hb : b ≠ D := fun z => by
      rw [z, fD] at e
      cases e
    rw [upd_ne hb]
    exact G.ext _ _ e
  · by_cases hb : b = D
    · subst hb
      rw [upd_same] at e ⊢
      exact e
    · rw [upd_ne hb] at e ⊢
      exact G.hid b x (by rw [upd_ne hb]; exact e)
  · by_cases hb : b = D
    · rw [hb]
      exact fD
    · rw [upd_ne hb] at e
      exact G.dj b x (by rw [upd_ne hb]; exact e)
  · obtain ⟨a, vs, h1, h2, h3, h4, h5⟩ := G.st k xs e
    have ne : a ≠ D := fun z => by
      rw [z, upd_same] at h5
      cases h5
    exact ⟨a, vs, h1, by rw [upd_ne ne]; exact h2, h3, h4, by rw [upd_ne ne] at h5 ⊢; exact h5⟩
theorem Good.show (G : Good K (upd W D (.lst us)) F A m σ H) (nW : W D = none) (r : Reps K F xs us) : Same F (upd F D (.lst us)) ∧ Good K W (upd F D (.lst us)) A m σ H ∧ Rep K (upd F D (.lst us)) (.lst xs) (.ref D) := by
  have fD : F D = none := G.dj D _ upd_same
  have s := same_upd (o := .lst us) fD
  have sW : Same W (upd W D (.lst us)) := same_upd nW
  refine ⟨s, ⟨fun b x e => ?_, sW.trans G.hid, fun b x e => ?_, G.slen, fun i v e => ?_, G.len, fun k xs e => ?_, G.nd, fun q hq => ?_⟩, ?_⟩
  rotate_left 4
  · obtain ⟨t1, t2, t3⟩ := G.tb q hq
    have ne : q.2 ≠ D := fun z => by
      rw [z, upd_same] at t3
      cases t3
    exact ⟨t1, by rw [upd_ne ne]; exact t2, by rw [upd_ne ne] at t3; exact t3⟩
  rotate_right 4
  · by_cases hb : b = D
    · subst hb
      rw [upd_same] at e
      cases e
      exact G.hid _ _ upd_same
    · rw [upd_ne hb] at e
      exact G.ext _ _ e
  · have hb : b ≠ D := fun z => by
      rw [z, nW] at e
      cases e
    rw [upd_ne hb]
    exact G.dj b x (sW _ _ e)
  · obtain ⟨u, h1, h2⟩ := G.sl i v e
    exact ⟨u, h1, RepV.mono s (pre_refl _) h2⟩
  · obtain ⟨a, vs, h1, h2, h3, h4, h5⟩ := G.st k xs e
    have ne : a ≠ D := fun z => by
      rw [z, upd_same] at h5
      cases h5
    rw [upd_ne ne] at h5
    exact ⟨a, vs, h1, h2, Reps.mono s h3, by rw [upd_ne ne]; exact h4, h5⟩
  · simp only [Rep]
    exact ⟨D, us, rfl, Rd.of upd_same, Reps.mono s r⟩
theorem Good.showOwn (G : Good K (upd W D (.lst us)) F A m σ H) (nW : W D = none) (r : Reps K F xs us) : Good K W F (A ++ [D]) ⟨m.sl, m.st ++ [.lst xs]⟩ σ H := by
  have fD : F D = none := G.dj D _ upd_same
  have hD : H D = some (.lst us) := G.hid _ _ upd_same
  have sW : Same W (upd W D (.lst us)) := same_upd nW
  have pr : A <+: A ++ [D] := ⟨[D], rfl⟩
  have at_ : ∀ k, k < m.st.length → (A ++ [D])[k]? = A[k]? := fun k hk => List.getElem?_append_left (by rw [G.len]; exact hk)
  have lst_ : (A ++ [D])[m.st.length]? = some D := by rw [← G.len]; simp
  have old : ∀ k, k < m.st.length → (m.st ++ [Cell.lst xs])[k]? = m.st[k]? := fun k hk => List.getElem?_append_left hk
  have new : ∀ k c, ¬ k < m.st.length → (m.st ++ [Cell.lst xs])[k]? = some c → k = m.st.length ∧ c = .lst xs := fun k c hk e => by
    have hk2 := (List.getElem?_eq_some_iff.mp e).1
    rw [List.length_append, List.length_singleton] at hk2
    have ek : k = m.st.length := by omega
    subst ek
    rw [List.getElem?_append_right (Nat.le_refl _), Nat.sub_self] at e
    exact ⟨rfl, (Option.some.inj e).symm⟩
  have nA : ∀ k zs, k < m.st.length → (m.st ++ [Cell.lst xs])[k]? = some (.lst zs) → (A ++ [D])[k]? = some D → False := fun k zs hk e h => by
    obtain ⟨a', _, q1, _, _, _, q5⟩ := G.st k zs ((old k hk).symm.trans e)
    rw [at_ k hk, q1] at h
    cases h
    rw [upd_same] at q5
    cases q5
  refine ⟨G.ext, sW.trans G.hid, fun b x e => G.dj b x (sW _ _ e), G.slen, fun i v e => ?_, by simp [G.len], fun k ys e => ?_, fun j k ys zs a e1 e2 h1 h2 => ?_, fun q hq => ⟨(G.tb q hq).1, (G.tb q hq).2.1, by
    have t3 := (G.tb q hq).2.2
    have ne : q.2 ≠ D := fun z => by
      rw [z, upd_same] at t3
      cases t3
    rw [upd_ne ne] at t3
    exact t3⟩⟩
  · obtain ⟨u, h1, h2⟩ := G.sl i v e
    exact ⟨u, h1, RepV.mono (Same.refl _) pr h2⟩
  · by_cases hk : k < m.st.length
    · have e' : m.st[k]? = some (.lst ys) := (old k hk).symm.trans e
      obtain ⟨a, ws, h1, h2, h3, h4, h5⟩ := G.st k ys e'
      have ne : a ≠ D := fun z => by
        rw [z, upd_same] at h5
        cases h5
      rw [upd_ne ne] at h5
      exact ⟨a, ws, (at_ k hk).trans h1, h2, h3, h4, h5⟩
    · obtain ⟨ek, ec⟩ := new k _ hk e
      subst ek
      cases ec
      exact ⟨D, us, lst_, hD, r, fD, nW⟩
  · by_cases hj : j < m.st.length
    · by_cases hk : k < m.st.length
      · exact G.nd j k ys zs a ((old j hj).symm.trans e1) ((old k hk).symm.trans e2) ((at_ j hj).symm.trans h1) ((at_ k hk).symm.trans h2)
      · obtain ⟨ek, _⟩ := new k _ hk e2
        subst ek
        rw [lst_] at h2
        cases h2
        exact (nA j ys hj e1 h1).elim
    · obtain ⟨ej, _⟩ := new j _ hj e1
      subst ej
      by_cases hk : k < m.st.length
      · rw [lst_] at h1
        cases h1
        exact (nA k zs hk e2 h2).elim
      · obtain ⟨ek, _⟩ := new k _ hk e2
        exact ek.symm
end
theorem lift_lc {K : PySem.W.Frag} (own : Bool) {di : DI} {g : Tgt} {tt : DT} {te : DE} {vs : List Nat} (hv : ∀ i ∈ tgSlots g, i ∈ vs) {σ : L2.St} {H : Hp} {Q : VK} (h : lift K (dLc own di g tt te vs) σ H Q) : tLc (liftI K di) (tgH K g) (liftT K tt) (lift K te) vs σ H Q := by
  obtain ⟨W, F, A, m, Qd, G, h, c⟩ := h
  refine ⟨W, F, A, m, _, G, h, fun F1 A1 xs lk m1 H1 s1 p1 G1 q1 J w => ?_⟩
  intro D hD
  have nW : W D = none := G1.hid.free hD
  let Kd : List Dt → M → Prop := fun acc m2 => if own = true then Qd (.c m2.st.length) ⟨m2.sl, m2.st ++ [.lst acc]⟩ else Qd (.d (.lst acc)) m2
  refine ⟨fun i n H' => ∃ F' A' st' acc us, Same F1 F' ∧ A1 <+: A' ∧ Good K (upd W D (.lst us)) F' A' ⟨m1.sl, st'⟩ σ H' ∧ Reps K F' acc us ∧ i + n = xs.length ∧ dLcGo m1.sl (wipeD m1.sl vs) g tt te xs lk Kd (xs.drop i) acc st', ⟨xs.length, F1, A1, m1.st, [], [], Same.refl _, pre_refl _, G1.hide hD, .nil, Nat.zero_add _, q1⟩, ?_⟩
  rintro i n H2 ⟨F2, A2, st2, acc, us, s2, p2, G2, r2, en, q2⟩
  by_cases hlt : i < xs.length
  · refine .inr ?_
    have ed : xs.drop i = xs[i] :: xs.drop (i + 1) := List.drop_eq_getElem_cons hlt
    rw [ed] at q2
    obtain ⟨hl, q2⟩ := q2
    obtain ⟨hgo, hy⟩ := w.go (upd W D (.lst us)) F2 A2 ⟨m1.sl, st2⟩ σ H2 i xs[i] s2 p2 G2 hl (List.getElem?_eq_getElem hlt)
    refine ⟨hgo, fun H' => ∃ F' A' st' acc us, Same F1 F' ∧ A1 <+: A' ∧ Good K (upd W D (.lst us)) F' A' ⟨m1.sl, st'⟩ σ H' ∧ Reps K F' acc us ∧ dLcGo m1.sl (wipeD m1.sl vs) g tt te xs lk Kd (xs.drop (i + 1)) acc st', fun H' hN => ?_, fun v H3 y => ?_⟩
    · obtain ⟨F', A', st', acc', us', s', p', G', r', q'⟩ := hN
      exact ⟨n - 1, by omega, F', A', st', acc', us', s', p', G', r', by omega, q'⟩
    · obtain ⟨F3, s3, G3, r3⟩ := hy v H3 y
      have G3w := G3.wipe vs
      -- from a state within the turn back to the outer names
      have outer : ∀ {F' A' σ' m' H' us'}, Same F3 F' → A2 <+: A' → Good K (upd W D (.lst us')) F' A' m' σ' H' → Good K (upd W D (.lst us')) F' A' ⟨m1.sl, m'.st⟩ σ H' := fun {F' A' σ' m' H' us'} sF pA G' =>
        ⟨G'.ext, G'.hid, G'.dj, G1.slen, fun i v e => by
          obtain ⟨u, h1, h2⟩ := G1.sl i v e
          exact ⟨u, h1, RepV.mono (s2.trans (s3.trans sF)) (p2.trans pA) h2⟩, G'.len, G'.st, G'.nd, G'.tb⟩
      refine tg_ok (m := ⟨wipeD m1.sl vs, st2⟩) (v := .d xs[i]) G3w r3 q2 fun m' σ' G' hw q' => ⟨?_, ?_⟩
      · have h1 := hw vs hv
        rw [h1]
        have idem : ∀ (l : List Nat) (vs : List Nat) (σ : L2.St), (∀ i ∈ l, i ∈ vs) → L2.wipe (L2.wipe σ vs) l = L2.wipe σ vs := by
          intro l
          induction l with
          | nil =>
            intro vs σ _
            rfl
          | cons z l ih =>
            intro vs σ hz
            show (L2.wipe (L2.wipe σ vs) l).set z none = L2.wipe σ vs
            rw [ih vs σ (fun i hi => hz i (List.mem_cons_of_mem _ hi))]
            have hm : z ∈ vs := hz z List.mem_cons_self
            apply List.ext_getElem?
            intro j
            rw [List.getElem?_set]
            by_cases hj : z = j
            · rw [if_pos hj]
              subst hj
              split
              · rename_i hl
                cases q : (L2.wipe σ vs)[z]? with
                | none =>
                  rw [List.getElem?_eq_none_iff] at q
                  omega
                | some o =>
                  cases o with
                  | none => rfl
                  | some x => exact absurd hm (wipe_some q).2
              · rename_i hl
                exact (List.getElem?_eq_none_iff.mpr (by omega)).symm
            · rw [if_neg hj]
        exact idem vs vs σ (fun _ h => h)
      · refine ⟨upd W D (.lst us), F3, A2, m', _, G', q', fun F4 A4 b m4 H4 s4 p4 G4 q4 => ?_⟩
        cases b with
        | false =>
          have q5 : dLcGo m1.sl (wipeD m1.sl vs) g tt te xs lk Kd (xs.drop (i + 1)) acc m4.st := q4
          exact ⟨F4, A4, m4.st, acc, us, s2.trans (s3.trans s4), p2.trans p4, outer s4 p4 G4, Reps.mono (s3.trans s4) r2, q5⟩
        | true =>
          refine ⟨upd W D (.lst us), F4, A4, m4, _, G4, q4, fun F5 A5 z m5 H5 s5 p5 G5 q5 u5 r5 => ?_⟩
          obtain ⟨d, rfl, hsz, q5⟩ := onD_elim q5
          have hD5 : H5 D = some (.lst us) := G5.hid _ _ upd_same
          refine ⟨us, hD5, by rw [← r2.length]; exact hsz, ?_⟩
          exact ⟨F5, A5, m5.st, acc ++ [d], us ++ [u5], s2.trans (s3.trans (s4.trans s5)), p2.trans (p4.trans p5), outer (s4.trans s5) (p4.trans p5) G5.rehide,
            (Reps.mono (s3.trans (s4.trans s5)) r2).append (.cons r5 .nil), q5⟩
  · have e : i = xs.length := by omega
    subst e
    rw [List.drop_length] at q2
    obtain ⟨hl, q2⟩ := q2
    refine .inl ⟨w.stop (upd W D (.lst us)) F2 A2 ⟨m1.sl, st2⟩ σ H2 s2 p2 G2 hl, ?_⟩
    have q3 : if own = true then Qd (.c st2.length) ⟨m1.sl, st2 ++ [.lst acc]⟩ else Qd (.d (.lst acc)) ⟨m1.sl, st2⟩ := q2
    cases own with
    | true => exact c F2 (A2 ++ [D]) _ _ _ (s1.trans s2) (p1.trans (p2.trans ⟨[D], rfl⟩)) (G2.showOwn nW r2) q3 _ ⟨D, by rw [← G2.len]; simp, rfl⟩
    | false =>
      obtain ⟨s3, G3, r3⟩ := G2.show nW r2
      exact c _ A2 _ _ _ (s1.trans (s2.trans s3)) (p1.trans p2) G3 q3 _ r3
abbrev JTs (X : Cx) (ifs : List Expr) (t : DT) : Prop := PTs X ifs (liftT X.K t)
section
variable {X : Cx} {pos : Pos}
theorem _root_.L2.PTs.imp {X : Cx} {e : List Expr} {t t' : TT} (h : PTs X e t) (f : ∀ σ H Q, t' σ H Q → t σ H Q) : PTs X e t' := ⟨fun pins s σ H Q I q => h.run pins s σ H Q I (f _ _ _ q)⟩
theorem jts_nil : JTs X [] dYes := pts_nil.imp fun σ H Q ⟨W, F, A, m, Qd, G, h, c⟩ => c F A true m H (Same.refl _) (pre_refl _) G h
theorem jts_one {e : Expr} {t : DT} (h : JT X e t) : JTs X [e] t := pts_one h
theorem je_lc (own : Bool) {elt tg iter : Expr} {ifs : List Expr} {scope : Scope} {own' : List (Str × Nat)} {di : DI} {g : Tgt} {tt : DT} {te : DE} (hv : ∀ i ∈ tgSlots g, i ∈ own'.map (·.2)) (hc : X.calm = true) (hN : X.N.Nodup) (hi : JI X tg iter di) (ok : BlkOk X.N X.env.scope scope own')
    (hg : ∀ (s : Shared) (H : Hp) (C : Addr) (cl : List (Str × Addr)) (fp : List Addr), PG (X.blk s H scope (compEnvC scope cl C X.env) fp) tg (tgH X.K g)) (ht : ∀ (s : Shared) (H : Hp) (C : Addr) (cl : List (Str × Addr)) (fp : List Addr), JTs (X.blk s H scope (compEnvC scope cl C X.env) fp) ifs tt)
    (he : ∀ (s : Shared) (H : Hp) (C : Addr) (cl : List (Str × Addr)) (fp : List Addr), JE (X.blk s H scope (compEnvC scope cl C X.env) fp) elt te) (hs : ∀ x, foldedSetIterable iter X.env x = pure x := by intro _; rfl) :
    JE X (.ListComp elt [⟨tg, iter, ifs, 0⟩] scope pos) (dLc own di g tt te (own'.map (·.2))) :=
  (pe_lc (tt := liftT X.K tt) (te := lift X.K te) hc hN hi ok hg ht he hs).imp fun _ _ _ h => lift_lc own hv h
theorem js_setLc (own : Bool) {i : Nat} {y : Str} {py : Pos} {elt tg iter : Expr} {ifs : List Expr} {scope : Scope} {own' : List (Str × Nat)} {spos : Pos} {di : DI} {g : Tgt} {tt : DT} {te : DE} (hv : ∀ i ∈ tgSlots g, i ∈ own'.map (·.2)) (hc : X.calm = true) (hN : X.N.Nodup) (hy : X.N[i]? = some y) (hyl : X.env.scope.names.lookup y = some .local)
    (hsw : swapsWith (.ListComp elt [⟨tg, iter, ifs, 0⟩] scope pos) (some (.Name y py)) spos.line X.env = pure true) (hi : JI X tg iter di) (ok : BlkOk X.N X.env.scope scope own')
    (hg : ∀ (s : Shared) (H : Hp) (C : Addr) (cl : List (Str × Addr)) (fp : List Addr), PG (X.blk s H scope (compEnvC scope cl C X.env) fp) tg (tgH X.K g)) (ht : ∀ (s : Shared) (H : Hp) (C : Addr) (cl : List (Str × Addr)) (fp : List Addr), JTs (X.blk s H scope (compEnvC scope cl C X.env) fp) ifs tt)
    (he : ∀ (s : Shared) (H : Hp) (C : Addr) (cl : List (Str × Addr)) (fp : List Addr), JE (X.blk s H scope (compEnvC scope cl C X.env) fp) elt te) (hs : ∀ x, foldedSetIterable iter X.env x = pure x := by intro _; rfl) :
    JS X (.Assign [.Name y py] (.ListComp elt [⟨tg, iter, ifs, 0⟩] scope pos) spos) (dSet i (dLc own di g tt te (own'.map (·.2)))) := by
  refine (ps_setLc (tt := liftT X.K tt) (te := lift X.K te) hc hN hy hyl hsw hi ok hg ht he hs).imp fun D σ H hh => ?_
  have h2 : tAsg (lift X.K (dLc own di g tt te (own'.map (·.2)))) (gName i) D σ H := lift_set hh
  exact lift_lc own hv h2
end
end RT

set_option maxRecDepth 100000
set_option maxHeartbeats 4000000
namespace RT
open PySem PySem.Spec PyProof.Rows L2

def notLst (o : Obj) : Bool := match o.cls with
  | .type c => decide (c ≠ "list")
  | _ => true
def frN (g : Addr → Option Obj) (as : List Addr) : PySem.W.Frag := (He.frG g as).filter fun q => notLst q.2 && !He.emptyTab q.2
theorem frN_mem' {g : Addr → Option Obj} {as : List Addr} {a : Addr} {o : Obj} (h : (a, o) ∈ He.frG g as) : g a = some o := by
  unfold He.frG at h
  obtain ⟨b, _, e⟩ := List.mem_filterMap.mp h
  cases hb : g b with
  | none =>
    rw [hb] at e
    cases e
  | some u =>
    rw [hb] at e
    have e2 : (b, u) = (a, o) := Option.some.inj e
    injection e2 with e3 e4
    rw [← e3, ← e4]
    exact hb
theorem lookup_mem' {a : Addr} {o : Obj} : ∀ {l : List (Addr × Obj)}, l.lookup a = some o → (a, o) ∈ l
  | [], h => by cases h
  | (b, u) :: r, h => by
    have h2 : (match a == b with | true => some u | false => r.lookup a) = some o := h
    cases q : (a == b) with
    | true =>
      rw [q] at h2
      have e : u = o := Option.some.inj h2
      rw [beq_iff_eq.mp q, e]
      exact List.mem_cons_self
    | false =>
      rw [q] at h2
      exact List.mem_cons_of_mem _ (lookup_mem' h2)
theorem frN_mem {g : Addr → Option Obj} {as : List Addr} {a : Addr} {o : Obj} (h : (frN g as).lookup a = some o) : g a = some o ∧ notLst o = true ∧ He.emptyTab o = false := by
  obtain ⟨h1, h2⟩ := List.mem_filter.mp (lookup_mem' h)
  obtain ⟨h3, h4⟩ := Bool.and_eq_true_iff.mp h2
  exact ⟨frN_mem' h1, h3, by simpa using h4⟩
theorem frN_in {as : List Addr} {h : Heap} : (frN h.get? as).In h := fun _ _ e => (frN_mem e).1
def NoLst (K : PySem.W.Frag) : Prop := ∀ a o, K.lookup a = some o → notLst o = true
structure TabsOk (K : PySem.W.Frag) (h : Heap) : Prop where
  cd : ∀ q ∈ tabsK K, PySem.W.codeHdIn K q.1 q.2 = true
  out : ∀ q ∈ tabsK K, K.lookup q.2 = none
  get : ∀ q ∈ tabsK K, h.get? q.2 = some { cls := .none, data := .fields #[] }
def tabsBK (g : Addr → Option Obj) (K : PySem.W.Frag) : Bool := (tabsK K).all fun q => PySem.W.codeHdIn K q.1 q.2 && (match g q.2 with
  | some o => He.emptyTab o
  | none => false)
theorem tabsBK_ok {as : List Addr} {h : Heap} (e : tabsBK h.get? (frN h.get? as) = true) : TabsOk (frN h.get? as) h := by
  have key : ∀ q ∈ tabsK (frN h.get? as), PySem.W.codeHdIn (frN h.get? as) q.1 q.2 = true ∧ ∃ o, h.get? q.2 = some o ∧ He.emptyTab o = true := fun q hq => by
    obtain ⟨h3, h4⟩ := Bool.and_eq_true_iff.mp (List.all_eq_true.mp e q hq)
    refine ⟨h3, ?_⟩
    cases z : h.get? q.2 with
    | none =>
      rw [z] at h4
      cases h4
    | some o =>
      rw [z] at h4
      exact ⟨o, rfl, h4⟩
  refine ⟨fun q hq => (key q hq).1, fun q hq => ?_, fun q hq => ?_⟩
  · obtain ⟨_, o, z, t⟩ := key q hq
    cases y : (frN h.get? as).lookup q.2 with
    | none => rfl
    | some u =>
      obtain ⟨z1, _, z2⟩ := frN_mem y
      rw [z] at z1
      cases z1
      rw [t] at z2
      cases z2
  · obtain ⟨_, o, z, t⟩ := key q hq
    rw [z, He.emptyTab_eq t]
abbrev AlR : Type := Bool × He.AlD
def obsR (n : Nat) (fa : List He.Fa) (fn : List He.DefD) (xb : PySem.W.Frag → Bool) (g : Addr → Option Obj) : AlR := (xb (frN g (He.asD g n)) && tabsBK g (frN g (He.asD g n)), He.obsD fa fn (frN g (He.asD g n)))
def hookR (n : Nat) (fa : List He.Fa) (fn : List He.DefD) (xb : PySem.W.Frag → Bool) : PySem.W.Hook where
  α := AlR
  obs := fun s => obsR n fa fn xb s.heap.get?
  val := fun _ => (true, He.valD fn)
  says := fun _ h => ∃ K : PySem.W.Frag, K.In h ∧ NoLst K ∧ TabsOk K h ∧ xb K = true ∧ He.SaysD fa fn K
  of := fun _ _ e => ⟨_, frN_in, fun _ _ e => (frN_mem e).2.1, tabsBK_ok (Bool.and_eq_true_iff.mp (congrArg Prod.fst e)).2, (Bool.and_eq_true_iff.mp (congrArg Prod.fst e)).1, congrArg Prod.snd e⟩
  keeps := fun _ _ _ ⟨K, hK, n, t, x, c⟩ k => ⟨K, PySem.W.Frag.In.keeps hK k, n, ⟨t.cd, t.out, fun q hq => k _ _ (t.get q hq)⟩, x, c⟩
theorem obsR_eq {n : Nat} {fa : List He.Fa} {fn : List He.DefD} {xb : PySem.W.Frag → Bool} {g : Addr → Option Obj} {s : Shared} (h : ∀ a, g a = s.heap.get? a) : obsR n fa fn xb g = (hookR n fa fn xb).obs s := by
  have e : g = s.heap.get? := funext h
  rw [e] <;> rfl

theorem fn_dtD {P : Program} {w : World} {K : PySem.W.Frag} {mg : Str → Option Value} {base : Heap} {x qual : Str} {params : Arguments} {body : List Stmt} {scope : Scope} {dvs : List V} {kws : List (Str × V)} {f : Addr} {fd : FuncData} {N ps : List Str} {k : Nat} {sp : FSpec} {b : DS} (kp : Bool) (hns : BaseOk K mg base) (htr : P.given.tree = none)
    (F : FunD K x qual params body scope dvs kws f fd) (S : FnScope N ps scope)
    (hd : ∀ (X : Cx) (cdv : Value) (A : Around) (outer : List Env) (s : Shared) (H : Hp) (E : XK), X = (cxOf CX0 P w K mg base N qual scope f cdv A outer s H E).nox → CodeIs K f cdv → Amb k X → JSs X body b)
    (hsp : ∀ args st0 Qd, sp args st0 Qd → args.length = ps.length ∧ b (endsOf kp st0.length Qd) (startM N.length args st0)) : Fnn P w K mg base CX0 (k + 1) f fd ps (liftSp K sp) := by
  obtain ⟨oc, od, dV, kV, doc, pm, an, cdv, ct, osl, rfl, lk, hcd, _, _⟩ := F.ex
  refine fnn_of hns htr lk hcd S (fun vs H Q E h => ?_) fun A outer s H vs Q E amb h => ?_
  · obtain ⟨W, F1, A1, st1, args, Qd, G, r, q, c⟩ := h
    rw [← r.length]
    exact (hsp _ _ _ q).1
  · obtain ⟨W, F1, A1, st1, args, Qd, G, r, q, c⟩ := h
    have h1 := hd (cxOf CX0 P w K mg base N qual scope f cdv A outer s H E).nox cdv A outer s H E rfl ⟨oc, od, _, osl, lk, rfl⟩ ⟨amb.rm, amb.py, amb.tb⟩
    refine ⟨_, PSs.nox h1, ?_⟩
    have hl := r.length
    refine ⟨W, F1, A1, startM N.length args st1, endsOf kp st1.length Qd, ⟨G.ext, G.hid, G.dj, ?_, ?_, G.len, G.st, G.nd, G.tb⟩, (hsp _ _ _ q).2, ⟨?_, ?_, ?_, ?_⟩⟩
    · unfold startM L2.start
      simp [hl]
    · intro i v e
      unfold startM at e
      unfold L2.start
      rw [← hl]
      exact repVs_slots r _ i v e
    · intro F' A' m' σ' H' s' p' G' q'
      exact retD_ok (kp := kp) (v := .d .non) (u := .non) G.len s' p' G' rv_non q' c
    · intro F' A' m' σ' H' v u s' p' G' r' q'
      exact retD_ok (kp := kp) G.len s' p' G' r' q' c
    · intro F' A' m' σ' H' _ _ _ q'
      exact q'
    · intro F' A' m' σ' H' _ _ _ q'
      exact q'

theorem law_callR {P : Program} {w : World} {K : PySem.W.Frag} {mg mb : Str → Option Value} {k : Nat} {fa a : Addr} {fd : FuncData} {x : Str} {sp : Sp} {s₁ : Shared} {vs : List Value} {ns : List Int}
    (KX : K.In s₁.heap) (nl : NoLst K) (tk : TabsOk K s₁.heap) (hns : s₁.heap.Ns mainGlobals mg) (hb : s₁.heap.Ns builtinsNs mb) (hbb : ∀ x : Str, x ≠ "__name__" → mb x = bootBuiltins x) (hlim : s₁.heap.NoLimit) (hseer : s₁.heap.NoSeer) (hg : s₁.gens = #[])
    (hbm : ∃ (bm : Addr) (ob : Obj), mg "__builtins__" = some (.ref bm) ∧ bm ≠ builtinsNs ∧ s₁.heap.get? bm = some ob ∧ ob.cls = .type "module" ∧ ob.dict = some builtinsNs ∧ ob.data = .plain)
    (ha : s₁.heap.get? a = some { cls := .type "list", data := .seq vs.toArray }) (hi : IntsAre vs ns) (hl : ns.length ≤ sizeLine) (hr : GRoom k callerA)
    (F : ∀ base : Heap, K.In base → base.Ns mainGlobals mg → BaseOk K mg base → Fnn P w K mg base CX0 k fa fd [x] sp) (hbind : ∀ (s : Shared) (u : Value), BindsTo s fd ⟨[u], []⟩ [(x, u)])
    (hsp : ∀ (H : Hp) (o : Obj), H a = some (.frz o (.lst (ns.map V.int))) → (∀ q ∈ tabsK K, H q.2 = some (.tbl #[])) → sp [.ref a] H (fun v _ => v = .bl true) E0) :
    codeAny (model P w) callerA (.call (.ref fa) ⟨[.ref a], []⟩) (fun r s' => r = .ok (.ret (.bool true)) ∧ OldK s₁.heap s'.heap ∧ s'.os = s₁.os ∧ AllBare s'.gens) s₁ := by
  have rv := vals_ints hi
  have lenV := hi.length
  have hk : K.lookup a = none := by
    cases q : K.lookup a with
    | none => rfl
    | some o =>
      have e := KX a o q
      rw [ha] at e
      have e2 := Option.some.inj e
      have := nl a o q
      rw [← e2] at this
      have z : notLst { cls := .type "list", data := .seq vs.toArray } = false := by
        show decide ("list" ≠ "list") = false
        decide
      rw [z] at this
      cases this
  have isT : ∀ b : Addr, b ∈ (tabsK K).map (·.2) → s₁.heap.get? b = some { cls := .none, data := .fields #[] } := fun b hb => by
    obtain ⟨p, hp, e⟩ := List.mem_map.mp hb
    rw [← e]
    exact tk.get p hp
  have aT : a ∉ (tabsK K).map (·.2) := fun z => by
    have q := isT a z
    rw [ha] at q
    have z' : Data.seq vs.toArray _ = Data.fields #[] := congrArg Obj.data (Option.some.inj q)
    cases z'
  have memT : ∀ p ∈ tabsK K, p.2 ∈ (tabsK K).map (·.2) := fun p hp => List.mem_map.mpr ⟨p, hp, rfl⟩
  let H : Hp := fun b => if b = a then some (.frz { cls := .type "list", data := .seq vs.toArray } (.lst (ns.map V.int))) else if b ∈ (tabsK K).map (·.2) then some (.tbl #[]) else none
  have Ha : H a = some (.frz { cls := .type "list", data := .seq vs.toArray } (.lst (ns.map V.int))) := if_pos rfl
  have Ht : ∀ b ∈ (tabsK K).map (·.2), H b = some (.tbl #[]) := fun b hb => (if_neg (show ¬ b = a from fun z => aT (z ▸ hb))).trans (if_pos hb)
  have Hn : ∀ b, b ≠ a → b ∉ (tabsK K).map (·.2) → H b = none := fun b hb hb2 => (if_neg hb).trans (if_neg hb2)
  have hok : HOk P w H s₁.heap := fun b u z => by
    by_cases hb : b = a
    · subst hb
      rw [Ha] at z
      cases z
      exact ⟨ha, by rw [List.length_map]; exact hl, vs, _, rv, ha⟩
    · by_cases hb2 : b ∈ (tabsK K).map (·.2)
      · rw [Ht b hb2] at z
        cases z
        exact isT b hb2
      · rw [Hn b hb hb2] at z
        cases z
  have base_of : ∀ {b : Addr} {o : Obj}, s₁.heap.get? b = some o → H b = none → (hidT s₁.heap H).get? b = some o := fun e n => hidT_get e n
  have noC : ∀ {b : Addr} {o : Obj}, s₁.heap.get? b = some o → o.cls ≠ .type "list" → o.cls ≠ .none → H b = none := fun {b o} e d d2 => by
    refine Hn b (fun z => ?_) fun z => ?_
    · subst z
      rw [ha] at e
      cases e
      exact absurd rfl d
    · rw [isT b z] at e
      cases e
      exact absurd rfl d2
  have noA : ∀ {b : Addr} {o : Obj} {es : Array DictEntry} {ep : Nat}, s₁.heap.get? b = some o → o.data = .dict es ep → H b = none := fun {b o es ep} e d => by
    refine Hn b (fun z => ?_) fun z => ?_
    · subst z
      rw [ha] at e
      cases e
      have d' : Data.seq vs.toArray _ = Data.dict es ep := d
      cases d'
    · rw [isT b z] at e
      cases e
      cases d
  have nsK : ∀ {b : Addr} {m : Str → Option Value}, s₁.heap.Ns b m → (hidT s₁.heap H).Ns b m := fun {b m} ⟨o, es, ep, e, d, r⟩ => ⟨o, es, ep, base_of e (noA e d), d, r⟩
  have hKb : K.In (hidT s₁.heap H) := fun b o e => base_of (KX b o e) (by
    refine Hn b (fun z => ?_) fun z => ?_
    · subst z
      rw [hk] at e
      cases e
    · obtain ⟨p, hp, ep⟩ := List.mem_map.mp z
      rw [← ep, tk.out p hp] at e
      cases e)
  have hM : Mod K mg (hidT s₁.heap H) := ⟨hKb, nsK hns, ⟨mb, nsK hb, hbb⟩, let ⟨mc, h1, h2⟩ := hlim; ⟨mc, nsK h1, h2⟩⟩
  have hS : (hidT s₁.heap H).NoSeer := ⟨let ⟨mc, a, b⟩ := hseer.statics; ⟨mc, nsK a, b⟩, let ⟨mc, a, b⟩ := hseer.mods; ⟨mc, nsK a, b⟩, let ⟨mc, a, b⟩ := hseer.imp; ⟨mc, nsK a, b⟩,
    let ⟨mg, bm, ob, a, b, c, d, e⟩ := hseer.main; ⟨mg, bm, ob, nsK a, b, base_of c (noC c (by rw [d]; decide) (by rw [d]; intro z; cases z)), d, e⟩⟩
  have TB : ∀ p ∈ tabsK K, GxR.TabB (hidT s₁.heap H) mg p.1 p.2 := fun p hp => by
    have hTp := tk.get p hp
    refine ⟨PySem.W.codeHd_of_K hKb (tk.cd p hp), ?_, fun z => ?_⟩
    · obtain ⟨bm, ob, b1, b2, b3, b4, b5, b6⟩ := hbm
      have nG : bm ≠ mainGlobals := fun q => by
        obtain ⟨o, es, ep, e, hd, _⟩ := hns
        rw [q, e] at b3
        cases b3
        rw [hd] at b6
        cases b6
      have nP : bm ≠ p.2 := fun q => by
        rw [q, hTp] at b3
        cases b3
        cases b6
      exact ⟨bm, ob, b1, b2, nG, nP, base_of b3 (noC b3 (by rw [b4]; decide) (by rw [b4]; intro z; cases z)), b4, b5, b6⟩
    · obtain ⟨o, es, ep, e, hd, _⟩ := hns
      rw [z, hTp] at e
      cases e
      cases hd
  have e0 : Env0 P w K mg (hidT s₁.heap H) callerA [] s₁ H := ⟨rfl, hM, fun b o e => of_hidT e, Nat.le_of_eq (hidT_size _ _), trivial, fun b hb => absurd (show b ∈ ([] : List Addr) from hb) (by simp), hok, .of_eq hg⟩
  refine codeAny_mono ((F _ hKb (nsK hns) ⟨hS, TB⟩).run callerA [] s₁ H ⟨[.ref a], []⟩ [.ref a] [.ref a] _ _ hr e0 (hbind s₁ (.ref a)) (.cons rfl .nil) (hsp H _ Ha fun q hq => Ht _ (memT q hq))) fun r s' h => ?_
  cases r with
  | error e => exact (show False from h).elim
  | ok fl =>
    cases fl with
    | next => exact False.elim h
    | brk => exact False.elim h
    | cont => exact False.elim h
    | ret u =>
      obtain ⟨v, H', os, bare, un, hok', r', q⟩ := h
      have q' : v = .bl true := q
      subst q'
      obtain rfl : u = Value.bool true := r'
      have key : ∀ b o, b ∉ (tabsK K).map (·.2) → s₁.heap.get? b = some o → s'.heap.get? b = some o := fun b o nb e => by
        by_cases hb : b = a
        · subst hb
          have z2 := un.frzs b _ _ Ha
          obtain ⟨e1, _⟩ := hok b _ Ha
          obtain ⟨e2, _⟩ := hok' b _ z2
          rw [e] at e1
          cases e1
          exact e2
        · exact un.keep b o e (Hn b hb nb) (by intro z; exact absurd (show b ∈ ([] : List Addr) from z) (by simp)) (by simp)
      have grown : ∀ p ∈ tabsK K, ∃ more : Array Value, s'.heap.get? p.2 = some { cls := .none, data := .fields more } := fun p hp => by
        obtain ⟨more, z⟩ := un.tbls p.2 #[] (Ht _ (memT p hp))
        exact ⟨_, hok' p.2 _ z⟩
      refine ⟨rfl, ⟨fun b o e => ?_, fun b o e => ?_⟩, os, bare⟩
      · by_cases hb : b ∈ (tabsK K).map (·.2)
        · obtain ⟨p, hp, ep⟩ := List.mem_map.mp hb
          obtain ⟨more, hm⟩ := grown p hp
          rw [← ep] at e ⊢
          rw [tk.get p hp] at e
          cases e
          exact .inr (.inl ⟨((PySem.W.codeHd_of_K KX (tk.cd p hp)).tab (tk.get p hp)).isCodeTable, rfl, #[], more, rfl, by rw [Array.empty_append]; exact hm⟩)
        · exact .inl (key b o hb e)
      · by_cases hb : b ∈ (tabsK K).map (·.2)
        · obtain ⟨p, hp, ep⟩ := List.mem_map.mp hb
          obtain ⟨more, hm⟩ := grown p hp
          rw [← ep]
          exact ⟨_, hm⟩
        · exact ⟨o, key b o hb e⟩
def LawD (n : Nat) (sp : FSpec) : Prop := ∀ ns : List Int, ns.length ≤ n → (∀ z ∈ ns, Builtin.Int.intBits z ≤ 1048576) → sp [.d (.lst (ns.map .int))] [] fun r _ => r = .d (.bl true)
theorem good0 {K : PySem.W.Frag} {F H : Hp} (s : Same F H) (t : ∀ q ∈ tabsK K, GxR.TabG H q.2 ∧ F q.2 = none) : Good K (fun _ => none) F [] ⟨[], []⟩ [] H where
  ext := s
  hid := fun _ _ e => nomatch e
  dj := fun _ _ e => nomatch e
  slen := rfl
  sl := fun i v e => by simp at e
  len := rfl
  st := fun k xs e => by simp at e
  nd := fun j k xs ys a e => by simp at e
  tb := fun q hq => ⟨(t q hq).1, (t q hq).2, rfl⟩
theorem reps_ints {K : PySem.W.Frag} {F : Hp} : ∀ ns : List Int, Reps K F (ns.map .int) (ns.map V.int)
  | [] => .nil
  | n :: ns => .cons rep_int (reps_ints ns)
theorem walk_R {l : PySem.W.OpenLaw} {n k : Nat} {q : Program} {loose : List Str} {XP : (Str → Option Value) → Heap → Prop} {YP : World → Heap → Prop} {d : DefRec} {x : Str} {sp : FSpec}
    (hn : l.most = some n) (hn2 : n ≤ sizeLine) (hdf : d.params.defaults = []) (hr : GRoom k callerA) (hi : importsNone q = true) (law : LawD n sp)
    (F : ∀ (w : World) (mg : Str → Option Value) (fa : Addr) (h : Heap), YP w h → h.Ns mainGlobals mg → mg d.name = some (.ref fa) →
      ∃ (K : PySem.W.Frag) (fd : FuncData), K.In h ∧ NoLst K ∧ TabsOk K h ∧ (∀ (s : Shared) (u : Value), BindsTo s fd ⟨[u], []⟩ [(x, u)]) ∧
        ∀ base : Heap, K.In base → base.Ns mainGlobals mg → BaseOk K mg base → Fnn l.prog w K mg base CX0 k fa fd [x] (liftSp K sp)) :
    PySem.W.WalkO q loose XP YP l.row.toRowW d [] (fun f vs => PySem.call f vs) := by
  refine Att.attach_callB hn hdf fun w s₀ s₁ mg mb fa o pm cd doc a vs ns G Y ho hd hcd hmg hobj hints hlen hbits hg => ?_
  obtain ⟨K, fd, KX, nl, tk, hb, hF⟩ := F w mg fa _ Y G.T.g hmg
  refine law_callR KX nl tk G.T.g G.T.b G.T.builtins G.T.nolimit (G.T.seer hi) hg G.T.bmain hobj hints (Nat.le_trans hlen hn2) hr hF hb fun H ob hS hT => ?_
  have sF : Same (fun b => if b = a then H b else none) H := fun b o e => by
    by_cases hb : b = a
    · have e' := (if_pos hb).symm.trans e
      exact e'
    · have e' := (if_neg hb).symm.trans e
      cases e'
  refine ⟨fun _ => none, fun b => if b = a then H b else none, [], [], [.d (.lst (ns.map .int))], _, good0 sF (fun q hq => ⟨⟨#[], hT q hq, trivial⟩, if_neg (fun z => ?_)⟩), ⟨.ref a, [], rfl, ?_, rfl⟩, law ns hlen hbits, fun F' A' st' H' r u _ _ _ r' q' => ?_⟩
  · have := hT q hq
    rw [z, hS] at this
    cases this
  · show Rep K _ (.lst (ns.map .int)) (.ref a)
    simp only [Rep]
    exact ⟨a, _, rfl, .inr ⟨ob, (if_pos rfl).trans hS⟩, reps_ints ns⟩
  · rw [q'] at r'
    exact repB_bl (H := H') r'
end RT

set_option maxRecDepth 100000
set_option maxHeartbeats 4000000
namespace RT
open PySem PySem.Spec PyProof.Rows L2

def rAddA : DR2 := fun x y P => match x, y with
  | .int i, .int j => P (.int (i + j))
  | .str i, .str j => i.length + j.length ≤ sizeLine ∧ P (.str (i ++ j))
  | .tup xs, .tup ys => xs.length + ys.length ≤ sizeLine ∧ P (.tup (xs ++ ys))
  | .lst xs, .lst ys => xs.length + ys.length ≤ sizeLine ∧ P (.lst (xs ++ ys))
  | _, _ => False
section
variable {X : Cx}
theorem o_addA : OpD X (binaryOp .Add) rAddA := ⟨_, (op_add.or op_add_str).or (op_catA.or op_catR), fun W F A m σ H x y u v P Q G rx ry q c => by
  unfold rAddA at q
  split at q
  · exact .inl (.inl ⟨_, _, repB_int rx, repB_int ry, c F H _ _ (Same.refl _) G rep_int q⟩)
  · exact .inl (.inr ⟨_, _, repB_str rx, repB_str ry, q.1, c F H _ _ (Same.refl _) G rep_str q.2⟩)
  · rename_i xs ys
    obtain ⟨R, hR, hv⟩ := o_catT (X := X)
    obtain ⟨l, vs, rfl, hl, rl⟩ := repB_tup rx
    obtain ⟨b, ws, rfl, hb, rb⟩ := repB_tup ry
    refine .inr (.inl ⟨l, b, vs, ws, rfl, rfl, seqT_mono G.ext hl, seqT_mono G.ext hb, by rw [← rl.length, ← rb.length]; exact q.1, fun e => ?_, fun e e2 => ?_, fun _ _ p np => ?_⟩)
    · have e1 := reps_nil rl e
      subst e1
      exact c F H _ _ (Same.refl _) G ry q.2
    · have e1 := reps_nil rb e2
      subst e1
      have q2 := q.2
      rw [List.append_nil] at q2
      exact c F H _ _ (Same.refl _) G rx q2
    · obtain ⟨F2, s2, G2, r2⟩ := tup_laid G np (rl.append rb)
      exact c F2 _ _ _ s2 G2 r2 q.2
  · rename_i xs ys
    obtain ⟨l, vs, rfl, hl, rl⟩ := rx
    obtain ⟨b, ws, rfl, hb, rb⟩ := ry
    refine .inr (.inr ⟨l, b, vs, ws, rfl, rfl, hl, hb, by rw [← rl.length, ← rb.length]; exact q.1, fun p np => ?_⟩)
    obtain ⟨F2, s2, G2, r2⟩ := lst_laid G np (rl.append rb)
    exact c F2 _ _ _ s2 G2 r2 q.2
  · exact q.elim⟩

def iAny (K : PySem.W.Frag) (tl : TE) : TI := fun σ H R => tl σ H fun x H1 => ∃ a, x = .ref a ∧ (((∃ xs, SqL K H1 a xs) ∧ R (Itl K a) H1) ∨ ((∃ xs, SqT K H1 a xs) ∧ R (Itt K a) H1))
theorem pi_any {tg l : Expr} {tl : TE} (hl : PE X l tl) : PI X tg l (iAny X.K tl) := by
  refine ⟨fun pins s σ H R I h => ?_⟩
  refine thn (hl.run pins s σ H _ I h) fun v s1 ⟨x, H1, I1, r1, a, ex, q⟩ => ?_
  subst ex
  cases r1
  rcases q with ⟨⟨xs, hs⟩, q⟩ | ⟨⟨xs, hs⟩, q⟩
  · obtain ⟨its, rv, p, hz⟩ := I1.list hs
    refine wpAny_pyIter_list p.isList ?_
    refine ⟨s1.heap.objs.size, [s1.heap.objs.size], _, _, H1, rfl, I1.kept (t' := s1.toks) fun b o e => Heap.get?_push_of_some _ e, turn_list a _, ⟨_, Heap.get?_push_size _ rfl, rfl, rfl⟩, fun b hb => ?_, q⟩
    have e : b = s1.heap.objs.size := by simpa using hb
    subst e
    exact I1.fpOk (Nat.le_refl _) (I1.hok.fresh (Nat.le_refl _))
  · obtain ⟨its, rv, p, hz⟩ := I1.tuple hs
    refine wpAny_pyIter_tuple (show s1.heap.IsTuple a its.toArray from p) ?_
    refine ⟨s1.heap.objs.size, [s1.heap.objs.size], _, _, H1, rfl, I1.kept (t' := s1.toks) fun b o e => Heap.get?_push_of_some _ e, turn_tuple a _, ⟨_, Heap.get?_push_size _ rfl, rfl, rfl⟩, fun b hb => ?_, q⟩
    have e : b = s1.heap.objs.size := by simpa using hb
    subst e
    exact I1.fpOk (Nat.le_refl _) (I1.hok.fresh (Nat.le_refl _))
def dAny (t : DE) : DI := fun m Q => t m fun v m1 => match v with
  | .d (.lst xs) => Q xs none m1
  | .d (.tup xs) => Q xs none m1
  | .c k => onC m1.st k fun xs => Q xs (some k) m1
  | _ => False
theorem ji_any {tg l : Expr} {t : DE} (hl : JE X l t) : JI X tg l (dAny t) := by
  refine (pi_any hl).imp fun σ H R hh => ?_
  obtain ⟨W, F, A, m, Qd, G, h, c⟩ := hh
  refine ⟨W, F, A, m, _, G, h, fun F1 A1 v m1 H1 s1 p1 G1 q1 u r1 => ?_⟩
  split at q1
  · rename_i xs
    have r' : Rep X.K F1 (.lst xs) u := r1
    simp only [Rep] at r'
    obtain ⟨a, vs, rfl, hs, rs⟩ := r'
    exact ⟨a, rfl, .inl ⟨⟨vs, .inl (rd_mono G1.ext hs)⟩, c F1 A1 xs none m1 H1 s1 p1 G1 q1 _ (walks_list (.inl hs) rs)⟩⟩
  · rename_i xs
    have r' : Rep X.K F1 (.tup xs) u := r1
    simp only [Rep] at r'
    obtain ⟨a, vs, rfl, hs, rs⟩ := r'
    exact ⟨a, rfl, .inr ⟨⟨vs, seqT_mono G1.ext hs⟩, c F1 A1 xs none m1 H1 s1 p1 G1 q1 _ (walks_tup hs rs)⟩⟩
  · rename_i k
    obtain ⟨xs, e, q1⟩ := onC_elim q1
    obtain ⟨a, ha, rfl⟩ := r1
    obtain ⟨a', vs, h1, h2, h3, _⟩ := G1.st k xs e
    rw [ha] at h1
    cases h1
    exact ⟨a, rfl, .inl ⟨⟨vs, SqL.of h2⟩, c F1 A1 xs (some k) m1 H1 s1 p1 G1 q1 _ (walks_own ha)⟩⟩
  · exact q1.elim

section
variable {a b e : Expr} {ta tb tc : DE} {pos : Pos} {f g : Int → Int → Bool}
end

structure SlotOk (X : Cx) (i : Nat) (x : Str) : Prop where
  hN : X.N[i]? = some x
  hl : Loc X.env.scope x
  nd : (x == ("__debug__" : Str)) = false
  nc : (x == ("__classdict__" : Str)) = false
  hf : X.fn x = true ∨ X.env.scope.names.lookup x = some .local
theorem SlotOk.vis {i : Nat} {x : Str} (s : SlotOk X i x) : Vis X.env.scope x := s.hl.elim .inl fun h => .inr (.inl h)
theorem je_v {i : Nat} {x : Str} {pos : Pos} (s : SlotOk X i x) : JE X (.Name x pos) (dVar i) := je_var i s.hN s.vis s.nd s.nc
theorem je_f {i : Nat} {x : Str} {pos : Pos} (s : SlotOk X i x) : JE X (.Name x pos) (dFz i) := je_fz i s.hN s.vis s.nd s.nc
theorem js_st {i : Nat} {x : Str} {pos pos' : Pos} {e : Expr} {te : DE} (hN : X.N.Nodup) (s : SlotOk X i x) (he : JE X e te) (hs : swapsWith e (some (.Name x pos')) pos.line X.env = pure false := by rfl) : JS X (.Assign [.Name x pos'] e pos) (dSet i te) := js_set hN s.hN s.hl he hs s.hf
theorem pg_v {i : Nat} {x : Str} {pos : Pos} (hN : X.N.Nodup) (s : SlotOk X i x) : PG X (.Name x pos) (gName i) := pg_name hN s.hN s.hl s.hf

def FnG (P : Program) (w : World) (K : PySem.W.Frag) (mg : Str → Option Value) (base : Heap) (x : Str) (k : Nat) (sp : FSpec) (dargs : List Vl) : Prop :=
  ∃ (f : Addr) (fd : FuncData) (ps : List Str) (ds : List Value) (dvs : List V), Fnn P w K mg base CX0 k f fd ps (liftSp K sp) ∧ mg x = some (.ref f) ∧ PySem.W.keepIn K (.ref f) = true ∧ Binds K fd ps ds ∧ Vals dvs ds ∧ ∀ F A, RepVs K F A dargs dvs
theorem je_cg {j k : Nat} {x : Str} {p pos : Pos} {e : Expr} {es : List Expr} {ts : DA} {sp : FSpec} {dargs : List Vl} (F : FnG X.prog X.w X.K X.mg X.base x j sp dargs) (hr : GRoom k X.A) (hg : Gl X x) (ha : JA X (e :: es) ts) (hj : j ≤ k := by decide) (nd : (x == ("__debug__" : Str)) = false := by decide)
    (he : starEach (e :: es) X.env = (false, eval e X.env) :: starEach es X.env := by rfl) (hpl : (backTo pos (starEach es X.env)).any (·.1) = false := by rfl) :
    JE X (.Call (.Name x p) (e :: es) [] pos) (dCall sp dargs ts) := je_call ⟨nd, F⟩ (hr.mono hj) hg ha he hpl
def spOf (kp : Bool) (n N : Nat) (b : DS) : FSpec := fun args st Q => args.length = n ∧ b (endsOf kp st.length Q) (startM N args st)
theorem mkG {P : Program} {w : World} {K : PySem.W.Frag} {mg : Str → Option Value} {base : Heap} {x y qual : Str} {params : Arguments} {body : List Stmt} {scope : Scope} {kws : List (Str × V)} {f : Addr} {fd : FuncData} {N ps : List Str} {k n m : Nat} {b : DS} (kp : Bool) (hns : BaseOk K mg base) (htr : P.given.tree = none)
    (F : FunD K y qual params body scope [] kws f fd) (hm : mg x = some (.ref f)) (S : FnScope N ps scope) (hn : ps.length = n) (hN : N.length = m)
    (hb : ∀ (kV doc pm : Value) (an : Option Addr) (cdv ct : Value) (us : List Value), us.length = ps.length → bindArgs (PySem.W.fnOf y qual params body scope .none kV doc pm an cdv ct) ⟨us, []⟩ = pure (ps.zip us))
    (hd : ∀ (X : Cx) (cdv : Value) (A : Around) (outer : List Env) (s : Shared) (H : Hp) (E : XK), X = (cxOf CX0 P w K mg base N qual scope f cdv A outer s H E).nox → CodeIs K f cdv → Amb k X → JSs X body b) :
    FnG P w K mg base x (k + 1) (spOf kp n m b) [] := by
  subst hn hN
  exact ⟨f, fd, ps, [], [], fn_dtD kp hns htr F S hd fun args st0 Qd h => h, hm, F.kp, F.bindsN hb, .nil, fun _ _ => rfl⟩
end
end RT

set_option maxRecDepth 100000
set_option maxHeartbeats 4000000
namespace RT
open PySem PySem.Spec PyProof.Rows L2
abbrev rLt : DR2 := rInt (fun _ _ => True) fun i j => .bl (decide (i < j))
abbrev rGt : DR2 := rInt (fun _ _ => True) fun i j => .bl (decide (j < i))
abbrev rGe : DR2 := rInt (fun _ _ => True) fun i j => .bl (decide (j ≤ i))
abbrev rSub : DR2 := rInt (fun _ _ => True) fun i j => .int (i - j)
abbrev rMul : DR2 := rInt MulOk fun i j => .int (i * j)
abbrev rDiv : DR2 := rInt (fun _ j => j ≠ 0) fun i j => .int (i.fdiv j)
abbrev rMod : DR2 := rInt (fun _ j => j ≠ 0) fun i j => .int (i.fmod j)
abbrev rPow : DR2 := rInt CPow fun i j => .int (i ^ j.toNat)
theorem boot_len : bootBuiltins "len" = some (.builtin "len") := by decide +kernel
theorem boot_abs : bootBuiltins "abs" = some (.builtin "abs") := by decide +kernel
theorem boot_int : bootBuiltins "int" = some (.type "int") := by decide +kernel
section
variable {P : Program} {w : World} {K : PySem.W.Frag} {mg : Str → Option Value} {base : Heap} {x y qual : Str} {params : Arguments} {body : List Stmt} {scope : Scope} {dvs : List V} {kws : List (Str × V)} {f : Addr} {fd : FuncData} {N ps : List Str} {k n m : Nat} {b : DS}
theorem mkGd {i : Int} (kp : Bool) (hns : BaseOk K mg base) (htr : P.given.tree = none)
    (F : FunD K y qual params body scope [.int i] kws f fd) (hm : mg x = some (.ref f)) (S : FnScope N ps scope) (hn : ps.length = n + 1) (hN : N.length = m)
    (hb : ∀ (T : Addr) (kV doc pm : Value) (an : Option Addr) (cdv ct : Value) (us its : List Value), us.length = n + 1 → its.length = 1 →
      ∃ k, bindArgs (PySem.W.fnOf y qual params body scope (.ref T) kV doc pm an cdv ct) ⟨us, []⟩ = seqItems? (.ref T) >>= k ∧ k (some its.toArray) = pure (ps.zip us))
    (hb1 : ∀ (T : Addr) (kV doc pm : Value) (an : Option Addr) (cdv ct : Value) (us its : List Value), us.length = n → its.length = 1 →
      ∃ k, bindArgs (PySem.W.fnOf y qual params body scope (.ref T) kV doc pm an cdv ct) ⟨us, []⟩ = seqItems? (.ref T) >>= k ∧ k (some its.toArray) = pure (ps.zip (us ++ its)))
    (hd : ∀ (X : Cx) (cdv : Value) (A : Around) (outer : List Env) (s : Shared) (H : Hp) (E : XK), X = (cxOf CX0 P w K mg base N qual scope f cdv A outer s H E).nox → CodeIs K f cdv → Amb k X → JSs X body b) :
    FnG P w K mg base x (k + 1) (spOf kp (n + 1) m b) [] ∧ FnG P w K mg base x (k + 1) (spOf kp (n + 1) m b) [.d (.int i)] := by
  subst hN
  have fn : Fnn P w K mg base CX0 (k + 1) f fd ps (liftSp K (spOf kp (n + 1) N.length b)) := fn_dtD kp hns htr F S hd fun args st0 Qd h => ⟨h.1.trans hn.symm, h.2⟩
  obtain ⟨ds, r, B⟩ := F.binds1 (ps := ps) (n + 1) 1 (by simp) (by simp [hn]) (fun T kV doc pm an cdv ct us its hu hi => by
    obtain ⟨k, e1, e2⟩ := hb T kV doc pm an cdv ct us its hu hi
    refine ⟨k, e1, ?_⟩
    rw [e2, List.drop_eq_nil_of_le (by rw [hi]; exact Nat.le_refl _), List.append_nil])
  obtain ⟨ds1, r1, B1⟩ := F.binds1 (ps := ps) n 0 (by simp) (by simp [hn]) (fun T kV doc pm an cdv ct us its hu hi => by
    obtain ⟨k, e1, e2⟩ := hb1 T kV doc pm an cdv ct us its hu hi
    exact ⟨k, e1, by rw [e2, List.drop_zero]⟩)
  have e : ds = [] := by
    cases r
    rfl
  subst e
  exact ⟨⟨f, fd, ps, [], [], fn, hm, F.kp, B, .nil, fun _ _ => rfl⟩, ⟨f, fd, ps, ds1, _, fn, hm, F.kp, B1, r1, fun _ _ => ⟨_, _, rfl, rv_int, rfl⟩⟩⟩
end
theorem mkF {P : Program} {w : World} {K : PySem.W.Frag} {mg : Str → Option Value} {base : Heap} {y qual : Str} {params : Arguments} {body : List Stmt} {scope : Scope} {dvs : List V} {kws : List (Str × V)} {f : Addr} {fd : FuncData} {N ps : List Str} {k n m : Nat} {b : DS} (kp : Bool) (hns : BaseOk K mg base) (htr : P.given.tree = none)
    (F : FunD K y qual params body scope dvs kws f fd) (S : FnScope N ps scope) (hn : ps.length = n) (hN : N.length = m)
    (hd : ∀ (X : Cx) (cdv : Value) (A : Around) (outer : List Env) (s : Shared) (H : Hp) (E : XK), X = (cxOf CX0 P w K mg base N qual scope f cdv A outer s H E).nox → CodeIs K f cdv → Amb k X → JSs X body b) :
    Fnn P w K mg base CX0 (k + 1) f fd ps (liftSp K (spOf kp n m b)) := by
  subst hn hN
  exact fn_dtD kp hns htr F S hd fun args st0 Qd h => h
end RT
namespace RT
open PySem PySem.Spec PyProof.Rows L2
theorem gl_of {X : Cx} {sc : Scope} {x : Str} (e : X.env.scope = sc) (h : sc.names.lookup x = some .globalImplicit) : Gl X x := by
  show X.env.scope.names.lookup x = some .globalImplicit
  rw [e]
  exact h
theorem slot_of {X : Cx} {sc : Scope} {N : List Str} {i : Nat} {x : Str} (e : X.env.scope = sc) (eN : X.N = N) (hfn : ∀ x, X.fn x = true) (h : N[i]? = some x) (hl : sc.names.lookup x = some .local ∨ sc.names.lookup x = some .cell) (h1 : (x == ("__debug__" : Str)) = false := by decide) (h2 : (x == ("__classdict__" : Str)) = false := by decide) : SlotOk X i x :=
  ⟨by rw [eN]; exact h, by rw [e]; exact hl, h1, h2, .inl (hfn x)⟩
theorem swap_ok {X : Cx} {x y : Str} {px py pt pt2 : Pos} {kt k2 : Nat} {a b : Expr} (hk : X.env.scope.kind = .function) (hx : X.env.scope.names.lookup x = some .local) (hy : X.env.scope.names.lookup y = some .local) (hxy : ([x, y].eraseDups.length != 2) = false) (hl : (py.line == px.line) = true)
    (hs1 : (match a with | .Starred .. => true | _ => false) = false) (hs2 : (match b with | .Starred .. => true | _ => false) = false) (hf : [a, b].all (foldedForSure 8) = false) (hc : [a, b].all (constantsAlone 8) = false) :
    swappedStores [.Tuple [.Name x px, .Name y py] kt pt] (.Tuple [a, b] k2 pt2) X.env = pure (some [x, y]) := by
  have kx : X.env.kindOf x = some .local := hx
  have ky : X.env.kindOf y = some .local := hy
  have hb : X.env.blockKind = .function := by unfold Env.blockKind; rw [hk]; rfl
  unfold swappedStores
  simp only [hb, List.length_cons, List.length_nil, List.head?_cons, Option.map_some, Option.getD_some, List.filterMap_cons, List.filterMap_nil, kx, ky, Expr.pos, hl, hf, hc, List.any_cons, List.any_nil, hs1, hs2]
  simp only [beq_self_eq_true, Bool.and_self, if_true, List.length_cons, List.length_nil, hxy]
  simp [hxy, hf, hc]
  intro h
  rcases h with h | h
  · cases a <;> first | (simp at h; done) | (simp at hs1; done)
  · cases b <;> first | (simp at h; done) | (simp at hs2; done)
end RT
namespace RT
open PySem PySem.Spec PyProof.Rows L2
def CstG (K : PySem.W.Frag) (mg : Str → Option Value) (x : Str) (d : Dt) : Prop := ∃ (v : V) (u : Value), mg x = some u ∧ RelV v u ∧ ∀ F, Rep K F d v
theorem CstG.at_ {X : Cx} {x : Str} {d : Dt} (c : CstG X.K X.mg x d) (g : Gl X x) (nd : (x == ("__debug__" : Str)) = false) : GlobD X x d := ⟨g, c, nd⟩
theorem blk_of {X : Cx} {sc : Scope} {N : List Str} {scope : Scope} {own : List (Str × Nat)} (eN : X.N = N) (eS : X.env.scope = sc) (h : blkC N sc scope own = true) : BlkOk X.N X.env.scope scope own := by
  rw [eN, eS]
  exact blkOk_by h
end RT

set_option maxRecDepth 100000
set_option maxHeartbeats 4000000
namespace RT
open PySem PySem.Spec PyProof.Rows L2

mutual
def vB (K : PySem.W.Frag) : Dt → Value → Bool
  | .non, u => decide (u = .none)
  | .bl b, u => decide (u = .bool b)
  | .int i, u => (match u with
    | .int j _ => decide (j = i)
    | _ => false)
  | .str s, u => (match u with
    | .str t _ => decide (t = s)
    | _ => false)
  | .tup ds, u => (match u with
    | .ref a => (match K.lookup a with
      | some ⟨.type c, _, .seq its _, _⟩ => decide (c = "tuple") && (decide (its.size ≤ sizeLine) && vBs K ds its.toList)
      | _ => false)
    | _ => false)
  | .lst _, _ => false
def vBs (K : PySem.W.Frag) : List Dt → List Value → Bool
  | [], [] => true
  | d :: ds, u :: us => vB K d u && vBs K ds us
  | _, _ => false
end
theorem band {a b : Bool} (h : (a && b) = true) : a = true ∧ b = true := Bool.and_eq_true_iff.mp h
mutual
theorem vB_ok {K : PySem.W.Frag} : ∀ {d : Dt} {u : Value}, vB K d u = true → ∃ v, RelV v u ∧ ∀ F, Rep K F d v
  | .non, u, h => ⟨.non, of_decide_eq_true (p := u = .none) h, fun _ => rfl⟩
  | .bl b, u, h => ⟨.bl b, of_decide_eq_true (p := u = .bool b) h, fun _ => rfl⟩
  | .int i, u, h => by
    cases u with
    | int j t =>
      have e : j = i := of_decide_eq_true h
      subst e
      exact ⟨.int j, ⟨t, rfl⟩, fun _ => rfl⟩
    | _ => cases h
  | .str s, u, h => by
    cases u with
    | str y t =>
      have e : y = s := of_decide_eq_true h
      subst e
      exact ⟨.str y, ⟨t, rfl⟩, fun _ => rfl⟩
    | _ => cases h
  | .tup ds, u, h => by
    cases u with
    | ref a =>
      have h' : (match K.lookup a with
        | some ⟨.type c, _, .seq its _, _⟩ => decide (c = "tuple") && (decide (its.size ≤ sizeLine) && vBs K ds its.toList)
        | _ => false) = true := h
      cases q : K.lookup a with
      | none =>
        rw [q] at h'
        cases h'
      | some o =>
        obtain ⟨oc, od, dt, osl⟩ := o
        rw [q] at h'
        cases oc with
        | type c =>
          cases dt with
          | seq its n =>
            obtain ⟨h1, h2⟩ := band (show (decide (c = "tuple") && (decide (its.size ≤ sizeLine) && vBs K ds its.toList)) = true from h')
            obtain ⟨h3, h4⟩ := band h2
            obtain ⟨vs, r, p⟩ := vBs_ok h4
            exact ⟨.ref a, rfl, fun F => ⟨a, vs, rfl, .inr ⟨_, its, n, q, congrArg Value.type (of_decide_eq_true h1), rfl, of_decide_eq_true h3, r⟩, p F⟩⟩
          | _ => cases h'
        | _ => cases dt <;> cases h'
    | _ => cases h
theorem vBs_ok {K : PySem.W.Frag} : ∀ {ds : List Dt} {us : List Value}, vBs K ds us = true → ∃ vs, Vals vs us ∧ ∀ F, Reps K F ds vs
  | [], [], _ => ⟨[], .nil, fun _ => rfl⟩
  | [], _ :: _, h => by cases h
  | _ :: _, [], h => by cases h
  | d :: ds, u :: us, h => by
    obtain ⟨h1, h2⟩ := band (show (vB K d u && vBs K ds us) = true from h)
    obtain ⟨v, r, p⟩ := vB_ok h1
    obtain ⟨vs, r2, p2⟩ := vBs_ok h2
    exact ⟨v :: vs, .cons r r2, fun F => ⟨v, vs, rfl, p F, p2 F⟩⟩
end
def cstB (K : PySem.W.Frag) (x : Str) (d : Dt) : Bool := match PySem.W.nsIn K mainGlobals x with
  | some (some u) => vB K d u
  | _ => false
theorem cst_of {K : PySem.W.Frag} {h : Heap} {mg : Str → Option Value} {x : Str} {d : Dt} (X : K.In h) (G : h.Ns mainGlobals mg) (c : cstB K x d = true) : CstG K mg x d := by
  unfold cstB at c
  cases e : PySem.W.nsIn K mainGlobals x with
  | none =>
    rw [e] at c
    cases c
  | some o =>
    rw [e] at c
    cases o with
    | none => cases c
    | some u =>
      obtain ⟨v, r, p⟩ := vB_ok (show vB K d u = true from c)
      exact ⟨v, u, PySem.W.mg_of X G e, r, p⟩

theorem lookup_relabel_free {env : Env} : ∀ {names : List (Str × NameKind)} {x : Str}, names.lookup x = some .free →
    (names.map fun (n, k) => if (k == NameKind.free && env.scope.kind == .function && env.kindOf n == some .cell) then (n, NameKind.cell) else (n, k)).lookup x = some .cell ∨
    (names.map fun (n, k) => if (k == NameKind.free && env.scope.kind == .function && env.kindOf n == some .cell) then (n, NameKind.cell) else (n, k)).lookup x = some .free
  | [], _, h => by cases h
  | (n, k) :: r, x, h => by
    rw [List.map_cons]
    by_cases hc : (k == NameKind.free && env.scope.kind == .function && env.kindOf n == some .cell) = true
    · simp only [if_pos hc]
      cases hx : x == n with
      | true =>
        simp [List.lookup_cons, hx]
      | false =>
        simp only [List.lookup_cons, hx] at h ⊢
        exact lookup_relabel_free h
    · simp only [if_neg hc]
      cases hx : x == n with
      | true =>
        simp only [List.lookup_cons, hx] at h ⊢
        exact .inr h
      | false =>
        simp only [List.lookup_cons, hx] at h ⊢
        exact lookup_relabel_free h
theorem vis_free {scope : Scope} {cl : List (Str × Addr)} {C : Addr} {env : Env} {x : Str} (h : scope.names.lookup x = some .free) : Vis (compEnvC scope cl C env).scope x := (lookup_relabel_free h).elim (fun h => .inr (.inl h)) fun h => .inr (.inr h)
end RT

set_option maxRecDepth 100000
set_option maxHeartbeats 4000000
namespace RT
open PySem PySem.Spec PyProof.Rows L2

def reprD (x : Dt) : Str := (toPy x).shown
def shows (x : Dt) : Prop := (toPy x).showable = true ∧ (toPy x).depth ≤ 60 ∧ (reprD x).length ≤ sizeLine
def bRepr : DRB := fun xs P => match xs with
  | [x] => shows x ∧ P (.str (reprD x))
  | _ => False
theorem noDictD : ∀ x : Dt, (toPy x).hasDict = false := by
  have go : ∀ n : Nat, ∀ x : Dt, sizeOf x ≤ n → (toPy x).hasDict = false := by
    intro n
    induction n with
    | zero =>
      intro x h
      cases x <;> simp at h
    | succ n ih =>
      intro x h
      have all : ∀ ds : List Dt, sizeOf ds ≤ n → PyData.hasDictAll (toPys ds) = false := by
        intro ds
        induction ds with
        | nil =>
          intro _
          simp [toPys, PyData.hasDictAll]
        | cons d ds ih2 =>
          intro hd
          simp at hd
          simp only [toPys, PyData.hasDictAll, ih d (by omega), ih2 (by omega), Bool.or_self]
      cases x with
      | tup ds =>
        simp at h
        simp only [toPy, PyData.hasDict]
        exact all ds (by omega)
      | lst ds =>
        simp at h
        simp only [toPy, PyData.hasDict]
        exact all ds (by omega)
      | _ => simp [toPy, PyData.hasDict]
  intro x
  exact go _ x (Nat.le_refl _)
section
variable {X : Cx}
theorem call_reprD {k : Nat} (hr : GRoom k X.A) : CallR X (.builtin "repr") (fun xs H Q => ∃ v d, xs = [v] ∧ Dp X.K H v d ∧ d.showable = true ∧ d.depth ≤ 60 ∧ d.shown.length ≤ sizeLine ∧ d.hasDict = false ∧ Q (.str d.shown) H) := by
  intro pins s σ H xs us Q I r h
  obtain ⟨v, d, rfl, hd, h1, h2, h3, h4, q⟩ := h
  have hlen := r.length
  cases us with
  | nil => cases hlen
  | cons u us =>
    cases us with
    | cons a b => cases hlen
    | nil =>
      obtain ⟨u', e, r'⟩ := r.get (i := 0) (x := v) rfl
      cases e
      obtain ⟨as, rd⟩ := Dp.reads I d v u hd r'
      have hu := hr.hu
      have rd0 := rd
      cases rd with
      | none => exact PySem.P.repr_of_none ⟨.str _, H, I.tok _, ⟨_, rfl⟩, q⟩
      | bool => exact PySem.P.repr_of_bool ⟨.str _, H, I.tok _, ⟨_, rfl⟩, q⟩
      | int => exact PySem.P.repr_of_int (by simpa [PyData.showable] using h1) ⟨.str _, H, I.tok _, ⟨_, rfl⟩, q⟩
      | str => exact PySem.P.repr_of_str ⟨.str _, H, I.tok _, ⟨_, rfl⟩, q⟩ h3
      | _ => exact _root_.PySem.repr_of_reads' rd0 h1 (PyData.noDict_hsm h4) hr.gd (by omega) (fun b o e => e) (fun h' u tk hk => ⟨.str _, H, I.kept hk, ⟨_, rfl⟩, q⟩) h3
theorem b_repr {k : Nat} (hr : GRoom k X.A) : BiD X (.builtin "repr") bRepr := ⟨_, call_reprD hr, fun W F A m σ H xs us P Q G rs q c => by
  unfold bRepr at q
  split at q
  · rename_i x
    obtain ⟨u, rfl, ru⟩ := rb1 rs
    exact ⟨u, toPy x, rfl, dp_of (rep_up G.ext ru), q.1.1, q.1.2.1, q.1.2.2, noDictD x, c F H _ _ (Same.refl _) G rep_str q.2⟩
  · exact q.elim⟩
theorem boot_repr : bootBuiltins "repr" = some (.builtin "repr") := by kernel_rfl
end
end RT

set_option maxRecDepth 100000
set_option maxHeartbeats 4000000
namespace RT
open PySem PySem.Spec PyProof.Rows L2

section
variable {X : Cx}
end
end RT

set_option maxRecDepth 100000
set_option maxHeartbeats 4000000
namespace RT
open PySem PySem.Spec PyProof.Rows L2

section
variable {X : Cx}
def rEqT : DR2 := fun x y P => match x, y with
  | .str a, .str b => P (.bl (decide (a = b)))
  | _, _ => False
theorem o_eqT : OpD X (compareOp .Eq) rEqT := ⟨_, L2.op_eq, fun W F A m σ H x y u v P Q G rx ry q c => by
  unfold rEqT at q
  split at q
  · rename_i a b
    rw [repB_str rx, repB_str ry]
    have e : decide (V.str a = V.str b) = decide (a = b) := decide_eq_decide.mpr ⟨fun h => by injection h, fun h => by rw [h]⟩
    refine ⟨rfl, ?_⟩
    rw [e]
    exact c F H _ _ (Same.refl _) G rep_bl q
  · exact q.elim⟩
end
end RT

set_option maxRecDepth 100000
set_option maxHeartbeats 4000000
namespace RT
open PySem PySem.Spec PyProof.Rows L2

section
variable {X : Cx} {pos p gpos : Pos} {elt tg iter : Expr} {scope : Scope} {own' : List (Str × Nat)} {di : DI} {g : Tgt} {te : DE} {k : Nat}
structure GScope (scope : Scope) : Prop where
  co : scope.isCoroutine = false
  cell : ∀ y ∈ scope.names, y.2 ≠ .cell
  dot : scope.names.lookup (".0" : Str) = some NameKind.local
end

def dNever : DS := fun _ _ => False
theorem js_never {X : Cx} {st : Stmt} : JS X st dNever := ⟨fun pins s σ H D I ⟨W, F, A, m, E, G, h, c⟩ => h.elim⟩
end RT

set_option maxRecDepth 100000
set_option maxHeartbeats 4000000
namespace RT
open PySem PySem.Spec PyProof.Rows L2

section
variable {X : Cx} {ts : DA} {e e2 : Expr} {p pos tpos : Pos} {elts : List Expr} {kk : Nat}
end
end RT

set_option maxRecDepth 100000
set_option maxHeartbeats 4000000
namespace RT
open PySem PySem.Spec PyProof.Rows L2
section
variable {X : Cx} {pos : Pos}
end
end RT

set_option maxRecDepth 100000
set_option maxHeartbeats 4000000
namespace RT
open PySem PySem.Spec PyProof.Rows L2
section
variable {X : Cx} {o e : Expr} {es : List Expr} {to : DE} {ts : DA} {pos : Pos}

end
end RT

set_option maxRecDepth 100000
set_option maxHeartbeats 4000000
namespace RT
open PySem PySem.Spec PyProof.Rows L2
section
variable {X : Cx} {pos : Pos} {e t1 t2 : Expr}
end
end RT

set_option maxRecDepth 100000
set_option maxHeartbeats 4000000
namespace RT
open PySem PySem.Spec PyProof.Rows L2
section
variable {X : Cx} {pos : Pos} {e tg : Expr} {te : DE}
def dAsgL (t : DE) (is : List Nat) : DS := fun E m => t m fun v m1 => match v with
  | .d (.lst xs) => xs.length = is.length ∧ E.nx ⟨setsD is xs m1.sl, m1.st⟩
  | _ => False
theorem lst_elim {v : Vl} {P : List Dt → Prop} (h : match v with
  | .d (.lst xs) => P xs
  | _ => False) : ∃ xs, v = .d (.lst xs) ∧ P xs := by
  split at h
  · exact ⟨_, rfl, h⟩
  · exact h.elim
theorem js_asgL {is : List Nat} (he : JE X e te) (hg : PG X tg (gLst X.K is.length (gNames is))) (hs : swapsWithSole [tg] e pos.line X.env = pure false := by rfl) (hw : swappedStores [tg] e X.env = pure none := by rfl)
    (h1 : (assignEach [tg] X.env).map (·.2) = [assign tg X.env] := by rfl) : JS X (.Assign [tg] e pos) (dAsgL te is) := by
  refine (ps_asg he hg hs hw h1).imp fun D σ H hh => ?_
  obtain ⟨W, F, A, m, E, G, h, c⟩ := hh
  refine ⟨W, F, A, m, _, G, h, fun F1 A1 v m1 H1 s1 p1 G1 q1 u r1 => ?_⟩
  obtain ⟨xs, rfl, hl, q⟩ := lst_elim q1
  have r' : Rep X.K F1 (.lst xs) u := r1
  simp only [Rep] at r'
  obtain ⟨a, vs, rfl, hr, rs⟩ := r'
  have hlv : vs.length = is.length := by rw [← rs.length]; exact hl
  exact ⟨a, vs, rfl, .inl (rd_mono G1.ext hr), hlv, gNames_ok hlv (c.nx F1 A1 _ _ H1 s1 p1 (G1.sets rs) q)⟩
def rNeT : DR2 := fun x y P => match x, y with
  | .str a, .str b => P (.bl (!decide (a = b)))
  | _, _ => False
theorem o_neT : OpD X (compareOp .NotEq) rNeT := ⟨_, L2.op_ne, fun W F A m σ H x y u v P Q G rx ry q c => by
  unfold rNeT at q
  split at q
  · rename_i a b
    rw [repB_str rx, repB_str ry]
    have e : decide (V.str a = V.str b) = decide (a = b) := decide_eq_decide.mpr ⟨fun h => by injection h, fun h => by rw [h]⟩
    refine ⟨rfl, ?_⟩
    rw [e]
    exact c F H _ _ (Same.refl _) G rep_bl q
  · exact q.elim⟩
end
end RT

set_option maxRecDepth 100000
set_option maxHeartbeats 4000000

namespace RT
open PySem PySem.Spec PyProof.Rows L2
section
variable {prog : Program} {w : World} {A : Around} {E : Value → Shared → Prop} {s : Shared}
end
section
variable {X : Cx}
end
def relS (scope sc : Scope) : Scope := { scope with names := scope.names.map fun (n, k) => if (k == .free && sc.kind == .function && sc.names.lookup n == some .cell) then (n, .cell) else (n, k) }
theorem relS_eq {scope sc : Scope} {env : Env} (e : env.scope = sc) : relabel scope env = relS scope sc := by
  subst e
  rfl
theorem blk_in {X : Cx} {s : Shared} {H : Hp} {sc S0 : Scope} {cl : List (Str × Addr)} {C : Addr} {fp : List Addr} {N : List Str} {scope : Scope} {own : List (Str × Nat)} (eN : X.N = N) (eS : X.env.scope = S0) (h : blkC N (relS sc S0) scope own = true) :
    BlkOk (X.blk s H sc (compEnvC sc cl C X.env) fp).N (X.blk s H sc (compEnvC sc cl C X.env) fp).env.scope scope own := blk_of (X := X.blk s H sc (compEnvC sc cl C X.env) fp) (sc := relS sc S0) eN (relS_eq eS) h
end RT

set_option maxRecDepth 100000
set_option maxHeartbeats 4000000

namespace RT
open PySem PySem.Spec PyProof.Rows L2

def bmVE : List Value := [.type "ValueError", .type "Exception", .type "BaseException", .type "object"]
def excB (K : PySem.W.Frag) (x : Str) : Bool := match PySem.W.nsIn K mainGlobals x with
  | some (some (.ref C)) => PySem.W.excIn K C bmVE "ValueError.__new__" && (PySem.W.keepIn K (.ref C) && ((PySem.W.subIn K (.ref C) (.type "BaseException") == some true) && ((PySem.W.typeIn K (.ref C) == some (.type "type")) &&
      ((PySem.W.findIn K (.ref C) "__getattribute__" == some (some (.builtin "BaseException.__getattribute__"))) && ((PySem.W.findIn K (.ref C) "__getattr__" == some none) && (PySem.W.hasDictIn K C && ((PySem.W.findIn K (.ref C) "__class__" == some (some (.builtin "object.__class__"))) &&
      ((PySem.W.specialIn K (.builtin "object.__class__") "__get__" == some (some (.builtin "getset_descriptor.__get__"))) && ((PySem.W.takesIn K (.builtin "object.__class__") == some true) && (PySem.W.mroIn K C (.type "object") == some true))))))))))
  | _ => false
structure ExcF (K : PySem.W.Frag) (x : Str) (C : Addr) : Prop where
  at_ : PySem.W.nsIn K mainGlobals x = some (some (.ref C))
  ex : PySem.W.excIn K C bmVE "ValueError.__new__" = true
  kp : PySem.W.keepIn K (.ref C) = true
  sub : PySem.W.subIn K (.ref C) (.type "BaseException") = some true
  ty : PySem.W.typeIn K (.ref C) = some (.type "type")
  cc : ExcC K C
theorem excF_of {K : PySem.W.Frag} {x : Str} (h : excB K x = true) : ∃ C, ExcF K x C := by
  unfold excB at h
  split at h
  · rename_i C e
    simp only [Bool.and_eq_true, beq_iff_eq] at h
    obtain ⟨h1, h2, h3, h4, h5, h6, h7, h8, h9, h10, h11⟩ := h
    exact ⟨C, e, h1, h2, h3, h4, ⟨h5, h6, h3, h7, h8, h9, h10, h11⟩⟩
  · cases h
def exmB (K : PySem.W.Frag) (x y : Str) : Bool := match PySem.W.nsIn K mainGlobals x, PySem.W.nsIn K mainGlobals y with
  | some (some cx), some (some cy) => PySem.W.exmOne K cx cy == some true
  | _, _ => false
theorem exm_of {K : PySem.W.Frag} {x y : Str} {cx cy : Value} (h : exmB K x y = true) (hx : PySem.W.nsIn K mainGlobals x = some (some cx)) (hy : PySem.W.nsIn K mainGlobals y = some (some cy)) : PySem.W.exmOne K cx cy = some true := by
  unfold exmB at h
  rw [hx, hy] at h
  exact beq_iff_eq.mp h
def isiB (K : PySem.W.Frag) (x y : Str) (b : Bool) : Bool := match PySem.W.nsIn K mainGlobals x, PySem.W.nsIn K mainGlobals y with
  | some (some cx), some (some (.ref cy)) => PySem.W.kitOne K cx (.ref cy) == some b
  | _, _ => false
def isiT (K : PySem.W.Frag) (x : Str) (T : String) (b : Bool) : Bool := match PySem.W.nsIn K mainGlobals x with
  | some (some cx) => PySem.W.kitOne K cx (.type T) == some b
  | _ => false

def ExcG (K : PySem.W.Frag) (mg : Str → Option Value) (x : Str) : Prop := ∃ D, ExcF K x D ∧ mg x = some (.ref D)
def ExmG (K : PySem.W.Frag) (mg : Str → Option Value) (x y : Str) : Prop := ∃ cy, mg y = some cy ∧ ∀ v, PySem.W.nsIn K mainGlobals x = some (some v) → PySem.W.exmOne K v cy = some true
def IsiG (K : PySem.W.Frag) (mg : Str → Option Value) (x y : Str) (b : Bool) : Prop := ∃ cy, mg y = some (.ref cy) ∧ ∀ v, PySem.W.nsIn K mainGlobals x = some (some v) → PySem.W.kitOne K v (.ref cy) = some b
def IsiTG (K : PySem.W.Frag) (x : Str) (T : String) (b : Bool) : Prop := ∀ v, PySem.W.nsIn K mainGlobals x = some (some v) → PySem.W.kitOne K v (.type T) = some b
theorem excG_of {K : PySem.W.Frag} {h : Heap} {mg : Str → Option Value} {x : Str} (X : K.In h) (G : h.Ns mainGlobals mg) (c : excB K x = true) : ExcG K mg x := by
  obtain ⟨D, f⟩ := excF_of c
  exact ⟨D, f, PySem.W.mg_of X G f.at_⟩
theorem exmG_of {K : PySem.W.Frag} {h : Heap} {mg : Str → Option Value} {x y : Str} (X : K.In h) (G : h.Ns mainGlobals mg) (c : exmB K x y = true) : ExmG K mg x y := by
  have c' := c
  unfold exmB at c'
  split at c'
  · rename_i cx cy e1 e2
    exact ⟨cy, PySem.W.mg_of X G e2, fun v hv => exm_of c hv e2⟩
  · cases c'
theorem isiG_of {K : PySem.W.Frag} {h : Heap} {mg : Str → Option Value} {x y : Str} {b : Bool} (X : K.In h) (G : h.Ns mainGlobals mg) (c : isiB K x y b = true) : IsiG K mg x y b := by
  unfold isiB at c
  split at c
  · rename_i cx cy e1 e2
    refine ⟨cy, PySem.W.mg_of X G e2, fun v hv => ?_⟩
    rw [e1] at hv
    cases hv
    exact beq_iff_eq.mp c
  · cases c
theorem isiT_of {K : PySem.W.Frag} {x : Str} {T : String} {b : Bool} {cx : Value} (h : isiT K x T b = true) (hx : PySem.W.nsIn K mainGlobals x = some (some cx)) : PySem.W.kitOne K cx (.type T) = some b := by
  unfold isiT at h
  rw [hx] at h
  exact beq_iff_eq.mp h
theorem isiTG_of {K : PySem.W.Frag} {x : Str} {T : String} {b : Bool} (c : isiT K x T b = true) : IsiTG K x T b := fun _ hv => isiT_of c hv

abbrev DX := M → (Str → M → Prop) → Prop
abbrev FSpecX := List Vl → List Cell → (Str → List Cell → Prop) → Prop
def liftX (K : PySem.W.Frag) (t : DX) (Wx : WX) : TS := fun _ σ H => ∃ W F A m QX, Good K W F A m σ H ∧ t m QX ∧
  ∀ F' A' m' σ' H' x v, Same F F' → A <+: A' → Good K W F' A' m' σ' H' → PySem.W.nsIn K mainGlobals x = some (some v) → QX x m' → Wx v none σ' H'
def liftSpX (K : PySem.W.Frag) (sp : FSpecX) : Sp := fun vs H _ E => ∃ W F A st args QX, Good K W F A ⟨[], st⟩ [] H ∧ RepVs K F A args vs ∧ sp args st QX ∧
  ∀ F' A' st' H' x v, Same F F' → A <+: A' → Good K W F' A' ⟨[], st'⟩ [] H' → PySem.W.nsIn K mainGlobals x = some (some v) → QX x st' → E v none H'
abbrev JXs (X : Cx) (Wx : WX) (e : List Stmt) (t : DX) : Prop := PSs X e (liftX X.K t Wx)
section
variable {X : Cx} {Wx : WX} {st : Stmt} {rest : List Stmt} {pos : Pos}
theorem pmk_own0 {C : Addr} {bmB : List Value} {B newId initId : String} {x : Str} {p pos : Pos} (F : ExcBaseFacts B newId initId bmB) (q : PySem.W.excIn X.K C bmB newId = true) (gC : X.mg x = some (.ref C)) (kC : PySem.W.keepIn X.K (.ref C) = true) (r : Raises X (.ref C)) (hg : Gl X x)
    (hdb : (x == ("__debug__" : Str)) = false := by decide) : PMk X (.Call (.Name x p) [] [] pos) (fun _ H Q => Q (.ref C) none H) := by
  intro pins s σ H Q I h
  refine wpAny_Call_Name_kw (ld_glob I hg gC ?_ hdb)
  refine PySem.W.callWith_K0 I.kIn kC ?_
  show wpAny _ _ (call (.ref C) []) _ _ _
  obtain ⟨bm, N, nm, qn, bs, hdct, sn, sub, ab, col, dd, k0, k1, k2, k3, k5, mN, hC, hN, hni, T⟩ := exc_obj I.kIn q
  refine wpAny_call_exc_subT F T hC hN hni (fun h' e hm => ?_) (by show 0 ≤ sizeLine; omega)
  exact mk_of I hm r h (I.hok.gone hm.new)
def dRaise (x : Str) : DX := fun m QX => QX x m
theorem jx_raise {x : Str} {C : Addr} {p p2 : Pos} (hc : X.calm = true) (tk : Takes X Wx) (hg : Gl X x) (f : ExcF X.K x C) (gC : X.mg x = some (.ref C)) (hdb : (x == ("__debug__" : Str)) = false := by decide) :
    JXs X Wx (.Raise (some (.Call (.Name x p) [] [] p2)) none pos :: rest) (dRaise x) :=
  (pss_cons (ps_raise hc tk (pmk_own0 PySem.F.excBase_ValueError f.ex gC f.kp (raises_own f.sub f.ty) hg hdb)) pss_never).imp fun D σ H ⟨W, F, A, m, QX, G, h, c⟩ => c F A m σ H x _ (Same.refl _) (pre_refl _) G f.at_ h
def dIfX (c : DT) (t : DX) : DX := fun m QX => c m fun b m1 => b = true ∧ t m1 QX
theorem jx_if {c : Expr} {a b : List Stmt} {ct : DT} {t : DX} (hc : JT X c ct) (ha : JXs X Wx a t) : JXs X Wx (.If c a b pos :: rest) (dIfX ct t) := by
  refine (pss_cons (ps_if hc ha pss_never) pss_never).imp fun D σ H hh => ?_
  obtain ⟨W, F, A, m, QX, G, h, c⟩ := hh
  refine ⟨W, F, A, m, _, G, h, fun F1 A1 b m1 H1 s1 p1 G1 q1 => ?_⟩
  obtain ⟨e, q⟩ := q1
  rw [if_pos e]
  exact ⟨W, F1, A1, m1, QX, G1, q, fun F2 A2 m2 σ2 H2 x v s2 p2 G2 => c F2 A2 m2 σ2 H2 x v (s1.trans s2) (pre_trans p1 p2) G2⟩

def FnX (P : Program) (w : World) (K : PySem.W.Frag) (mg : Str → Option Value) (base : Heap) (x : Str) (k : Nat) (sp : FSpecX) : Prop :=
  ∃ (f : Addr) (fd : FuncData) (ps : List Str), Fnn P w K mg base (L2.CX P w) k f fd ps (liftSpX K sp) ∧ mg x = some (.ref f) ∧ PySem.W.keepIn K (.ref f) = true ∧ Binds K fd ps []
theorem run_fnX {CX : CXT} {k : Nat} {f : Addr} {fd : FuncData} {ps : List Str} {sp : Sp} {E : XK} {pins : List (Addr × Obj)} {σ : L2.St} {H : Hp} {s : Shared} {Q : VK} {us : List Value} {vs : List V} (F : Fnn X.prog X.w X.K X.mg X.base CX k f fd ps sp) (hr : GRoom k X.A) (hb : Binds X.K fd ps []) (hx : PassesAt CX X σ E)
    (I : Inv X pins σ H s) (r : Vals vs us) (h : sp vs H Q E) : wpAny (model X.prog X.w) X.A (call (.ref f) us) (EP X pins σ Q) X.xe s := by
  have hl : us.length = ps.length := by rw [← r.length]; exact F.len _ _ _ _ h
  have b := hb s us I.kIn (by rw [List.append_nil]; exact hl)
  rw [List.append_nil] at b
  refine wpAny_call (codeAny_mono (F.run X.A X.stack s H ⟨us, []⟩ us vs Q E hr I.env0 b r h) fun r s' hq => ?_)
  cases r with
  | error e => exact hx pins H s e s' I hq
  | ok fl =>
    cases fl with
    | ret u => exact I.after hq
    | next => exact False.elim hq
    | brk => exact False.elim hq
    | cont => exact False.elim hq
def tCallX (sp : Sp) (Wx : WX) (t : TA) : TE := fun σ H Q => t σ H fun vs H1 => sp vs H1 Q (WE Wx σ)
theorem pn_callX {j k : Nat} {x : Str} {p : Pos} {e : Expr} {es : List Expr} {t : TA} {sp : FSpecX} (F : FnX X.prog X.w X.K X.mg X.base x j sp) (hr : GRoom k X.A) (hg : Gl X x) (tk : Takes X Wx) (ha : PA X (e :: es) t) (hj : j ≤ k := by decide) (hdb : (x == ("__debug__" : Str)) = false := by decide)
    (he : starEach (e :: es) X.env = (false, eval e X.env) :: starEach es X.env := by rfl) (hpl : (backTo pos (starEach es X.env)).any (·.1) = false := by rfl) :
    PE X (.Call (.Name x p) (e :: es) [] pos) (tCallX (liftSpX X.K sp) Wx t) := by
  obtain ⟨f, fd, ps, F, hm, hk, hb⟩ := F
  refine ⟨fun pins s σ H Q I h => ?_⟩
  refine wpAny_Call_Name_kw (ld_glob I hg hm ?_ hdb)
  refine PySem.W.callWith_K (h₀ := X.base) I.ok.mod.kin hk (thn (ha.run pos pins s σ H _ I h) fun us s1 ⟨vs, H1, I1, r, q⟩ => ⟨I1.kIn, ?_⟩) he hpl
  exact run_fnX F (hr.mono hj) hb (passAt tk σ) I1 r q
def dCallX (sp : FSpecX) (ts : DA) : DX := fun m QX => ts m fun vs m1 => sp vs m1.st fun x st' => QX x ⟨m1.sl, st'⟩
theorem lift_callX {sp : FSpecX} {ts : DA} {D : Ends} {σ : L2.St} {H : Hp} {Q : VK} (h : liftX X.K (dCallX sp ts) Wx D σ H) : tCallX (liftSpX X.K sp) Wx (liftA X.K ts) σ H Q := by
  obtain ⟨W, F, A, m, QX, G, h, c⟩ := h
  refine ⟨W, F, A, m, _, G, h, fun F1 A1 vs m1 H1 s1 p1 G1 q1 us r1 => ⟨W, F1, A1, m1.st, vs, _, G1.bare, r1, q1, fun F2 A2 st2 H2 x v s2 p2 G2 e q2 => ?_⟩⟩
  exact c F2 A2 _ σ H2 x v (s1.trans s2) (pre_trans p1 p2) (G1.back s2 p2 G2) e q2
theorem jx_do {j k : Nat} {x : Str} {p p2 : Pos} {e : Expr} {es : List Expr} {ts : DA} {sp : FSpecX} (F : FnX X.prog X.w X.K X.mg X.base x j sp) (hr : GRoom k X.A) (hg : Gl X x) (tk : Takes X Wx) (ha : JA X (e :: es) ts) (hj : j ≤ k := by decide) (hdb : (x == ("__debug__" : Str)) = false := by decide)
    (he : starEach (e :: es) X.env = (false, eval e X.env) :: starEach es X.env := by rfl) (hpl : (backTo p2 (starEach es X.env)).any (·.1) = false := by rfl)
    (hs : swapsWith (.Call (.Name x p) (e :: es) [] p2) none pos.line X.env = pure false := by rfl) :
    JXs X Wx (.Expr (.Call (.Name x p) (e :: es) [] p2) pos :: rest) (dCallX sp ts) :=
  (pss_cons (ps_expr (pn_callX F hr hg tk ha hj hdb he hpl) hs) pss_never).imp fun D σ H h => lift_callX h
end

def spXOf (n N : Nat) (b : DX) : FSpecX := fun args st QX => args.length = n ∧ b (startM N args st) fun x m => QX x (m.st.take st.length)
theorem mkX {P : Program} {w : World} {K : PySem.W.Frag} {mg : Str → Option Value} {base : Heap} {x y qual : Str} {params : Arguments} {body : List Stmt} {scope : Scope} {kws : List (Str × V)} {f : Addr} {fd : FuncData} {N ps : List Str} {k n m : Nat} {b : DX} (hns : BaseOk K mg base) (htr : P.given.tree = none)
    (F : FunD K y qual params body scope [] kws f fd) (hm : mg x = some (.ref f)) (S : FnScope N ps scope) (hn : ps.length = n) (hN : N.length = m)
    (hb : ∀ (kV doc pm : Value) (an : Option Addr) (cdv ct : Value) (us : List Value), us.length = ps.length → bindArgs (PySem.W.fnOf y qual params body scope .none kV doc pm an cdv ct) ⟨us, []⟩ = pure (ps.zip us))
    (hd : ∀ (X : Cx) (Wx : WX) (cdv : Value) (A : Around) (outer : List Env) (s : Shared) (H : Hp) (E : XK), X = cxOf (L2.CX P w) P w K mg base N qual scope f cdv A outer s H E → Takes X Wx → Amb k X → JXs X Wx body b) :
    FnX P w K mg base x (k + 1) (spXOf n m b) := by
  subst hn hN
  refine ⟨f, fd, ps, ?_, hm, F.kp, F.bindsN hb⟩
  obtain ⟨oc, od, dV, kV, doc, pm, an, cdv, ct, osl, rfl, lk, hcd, _, _⟩ := F.ex
  refine fnn_of hns htr lk hcd S (fun vs H Q E h => ?_) fun A outer s H vs Q E amb h => ?_
  · obtain ⟨W, F1, A1, st1, args, QX, G, r, q, c⟩ := h
    rw [← r.length]
    exact q.1
  · obtain ⟨W, F1, A1, st1, args, QX, G, r, q, c⟩ := h
    refine ⟨_, hd (cxOf (L2.CX P w) P w K mg base N qual scope f cdv A outer s H E) (fun cls d _ H => E cls d H) cdv A outer s H E rfl (takes_of rfl rfl rfl rfl) amb, ?_⟩
    have hl := r.length
    refine ⟨W, F1, A1, startM N.length args st1, _, ⟨G.ext, G.hid, G.dj, ?_, ?_, G.len, G.st, G.nd, G.tb⟩, q.2, ?_⟩
    · unfold startM L2.start
      simp [hl]
    · intro i v e
      unfold startM at e
      unfold L2.start
      rw [← hl]
      exact repVs_slots r _ i v e
    · intro F' A' m' σ' H' x v s' p' G' e q'
      have eA : A'.take st1.length = A1 := by rw [← G.len]; exact pre_take p'
      have G1 := G'.take st1.length
      rw [eA] at G1
      exact c F' A1 _ H' x v s' (pre_refl _) G1 e q'

section
variable {X : Cx} {i : Nat} {a : Addr} {rest : List Stmt} {pos : Pos}
abbrev CE (X : Cx) (i : Nat) (a : Addr) (e : Expr) (v : V) : Prop := PE X e fun σ H Q => σ[i]? = some (some (.ref a)) ∧ Q v H
abbrev CS (X : Cx) (i : Nat) (a : Addr) (sts : List Stmt) (v : V) : Prop := PSs X sts fun D σ H => σ[i]? = some (some (.ref a)) ∧ D.rt v H
theorem ce_and {e e2 : Expr} {r : List Expr} {x y : Bool} (h1 : CE X i a e (.bl x)) (h2 : CE X i a (.BoolOp .And (e2 :: r) pos) (.bl y)) : CE X i a (.BoolOp .And (e :: e2 :: r) pos) (.bl (x && y)) :=
  (pe_and h1 h2).imp fun σ H Q ⟨z, q⟩ => ⟨z, x, rfl, by
    cases x with
    | true => exact ⟨z, q⟩
    | false => exact q⟩
theorem ce_one {op} {e : Expr} {v : V} (h : CE X i a e v) : CE X i a (.BoolOp op [e] pos) v := pe_one h
theorem ce_not {e : Expr} {x : Bool} (h : CE X i a e (.bl x)) : CE X i a (.UnaryOp .Not e pos) (.bl (!x)) := (pe_not h).imp fun σ H Q ⟨z, q⟩ => ⟨z, x, rfl, q⟩
theorem cs_ret {e : Expr} {v : V} (h : CE X i a e v) : CS X i a (.Return (some e) pos :: rest) v := (pss_cons (ps_ret h) pss_never).imp fun D σ H q => q
theorem ce_isi {X : Cx} {i : Nat} {a D : Addr} {oe : Obj} {pn : List (Addr × Obj)} {n y : Str} {b : Bool} {cy : Value} {p p1 p2 pos : Pos} (C : ExcC X.K D) (hz : Zc (.ref D) none oe) (hf : ∃ vs, oe.data = .fields vs) (hk : PySem.W.kitOne X.K (.ref D) cy = some b)
    (hN : X.N[i]? = some n) (hv : Vis X.env.scope n) (hg : Gl X "isinstance") (hm : X.mg "isinstance" = none) (hgy : Gl X y) (hmy : X.mg y = some cy) {vy : V} (ry : RelV vy cy) (hu : ∀ u, RelV vy u → u = cy)
    (n1 : (n == ("__debug__" : Str)) = false := by decide) (n2 : (n == ("__classdict__" : Str)) = false := by decide) (n3 : (y == ("__debug__" : Str)) = false := by decide) :
    CE (X.suite a ((a, oe) :: pn)) i a (.Call (.Name "isinstance" p) [.Name n p1, .Name y p2] [] pos) (.bl b) :=
  (pe_callB (X := X.suite a ((a, oe) :: pn)) (call_isE C hz hf) hg hm PyProof.Rows.boot_isinstance (pa_cons (pe_var hN hv n1 n2) (pa_cons (pe_glob hgy hmy ry n3) pa_nil))).imp fun σ H Q ⟨z, q⟩ => ⟨_, z, vy, cy, b, rfl, hu, hk, q⟩
theorem ce_isiT {X : Cx} {i : Nat} {a D : Addr} {oe : Obj} {pn : List (Addr × Obj)} {n y : Str} {T : String} {b : Bool} {p p1 p2 pos : Pos} (C : ExcC X.K D) (hz : Zc (.ref D) none oe) (hf : ∃ vs, oe.data = .fields vs) (hk : PySem.W.kitOne X.K (.ref D) (.type T) = some b)
    (hN : X.N[i]? = some n) (hv : Vis X.env.scope n) (hg : Gl X "isinstance") (hm : X.mg "isinstance" = none) (hgy : Gl X y) (hmy : X.mg y = none) (hby : bootBuiltins y = some (.type T))
    (n1 : (n == ("__debug__" : Str)) = false := by decide) (n2 : (n == ("__classdict__" : Str)) = false := by decide) (n3 : (y == ("__debug__" : Str)) = false := by decide) (n4 : y ≠ "__name__" := by decide) :
    CE (X.suite a ((a, oe) :: pn)) i a (.Call (.Name "isinstance" p) [.Name n p1, .Name y p2] [] pos) (.bl b) :=
  (pe_callB (X := X.suite a ((a, oe) :: pn)) (call_isE C hz hf) hg hm PyProof.Rows.boot_isinstance (pa_cons (pe_var hN hv n1 n2) (pa_cons (pe_bltn (v := .ty T) hgy hmy hby rfl n4 n3) pa_nil))).imp fun σ H Q ⟨z, q⟩ => ⟨_, z, .ty T, .type T, b, rfl, fun _ h => h, hk, q⟩
end

def cV : Dt → V
  | .non => .non
  | .bl b => .bl b
  | .int i => .int i
  | .str s => .str s
  | _ => .non
def isC : Dt → Bool
  | .non | .bl _ | .int _ | .str _ => true
  | _ => false
theorem rep_cV {K : PySem.W.Frag} {F : Hp} {d : Dt} (h : isC d = true) : Rep K F d (cV d) := by
  cases d with
  | tup _ => cases h
  | lst _ => cases h
  | _ => simp [Rep, cV]
def dTry (bn : DS) (bx : DX) (i : Nat) (hs : List (Str × Dt)) : DS := fun E m => bn E m ∨ bx m fun x m1 => i < m1.sl.length ∧ ∃ d, (x, d) ∈ hs ∧ E.rt (.d d) ⟨m1.sl.set i none, m1.st⟩
theorem js_try {X : Cx} {y n : Str} {cy : Value} {i : Nat} {body suite : List Stmt} {b₀ : Stmt} {np pos pos' : Pos} {bn : DS} {bx : DX} {hs : List (Str × Dt)} (h1 : X.stack = X.env :: X.outer) (h2 : X.env.frame = some X.env.locals) (hN : X.N.Nodup) (hi : X.N[i]? = some n) (hln : X.env.kindOf n = some .local)
    (hg : Gl X y) (hm : X.mg y = some cy) (hdb : (y == ("__debug__" : Str)) = false) (hok : hs.all (fun q => isC q.2) = true)
    (hx : ∀ x d, (x, d) ∈ hs → ∀ v, PySem.W.nsIn X.K mainGlobals x = some (some v) → PySem.W.exmOne X.K v cy = some true)
    (hb : ∀ (pn : List (Addr × Obj)) (xe : Value → Shared → Prop), PassesOwn (model X.prog X.w) X.A X.env xe → JSs (X.tr pn xe) body bn)
    (hbx : ∀ (Wx : WX) (pn : List (Addr × Obj)) (xe : Value → Shared → Prop), Takes (X.tr pn xe) Wx → PassesOwn (model X.prog X.w) X.A X.env xe → JXs (X.tr pn xe) Wx body bx)
    (hsu : ∀ (a : Addr) (oe : Obj) (pn : List (Addr × Obj)) (x : Str) (d : Dt) (v : Value), (x, d) ∈ hs → PySem.W.nsIn X.K mainGlobals x = some (some v) → Zc v none oe → (∃ vs, oe.data = .fields vs) → CS (X.suite a ((a, oe) :: pn)) i a (b₀ :: suite) (cV d)) :
    JS X (.Try body [.ExceptHandler (some (.Name y np)) (some n) (b₀ :: suite) pos'] [] [] pos) (dTry bn bx i hs) := by
  have hc : Names X y cy := ⟨hg, hdb, .inl hm⟩
  have p1 : PS X (.Try body [.ExceptHandler (some (.Name y np)) (some n) (b₀ :: suite) pos'] [] [] pos) (fun D σ H => liftS X.K bn D σ H) :=
    ps_try_as (tb := fun _ => liftS X.K bn) (ts := fun _ _ _ => tNever) (Wout := fun _ _ _ _ => False) h1 h2 hN hi hln hc takes0 (fun W pn xe _ po => hb pn xe po) (fun _ _ _ _ _ _ _ => pss_never)
  have p2 : PS X (.Try body [.ExceptHandler (some (.Name y np)) (some n) (b₀ :: suite) pos'] [] [] pos) (fun D σ H => liftX X.K bx (wAs X.K cy i (fun a cls d D σ H => ∃ x dv, (x, dv) ∈ hs ∧ PySem.W.nsIn X.K mainGlobals x = some (some cls) ∧ d = none ∧ σ[i]? = some (some (.ref a)) ∧ D.rt (cV dv) H) (fun _ _ _ _ => False) D) D σ H) :=
    ps_try_as (tb := fun W => liftX X.K bx W) h1 h2 hN hi hln hc takes0 (fun W pn xe tk po => hbx W pn xe tk po) (fun a oe cls d pn hz hf => ⟨fun pins s σ H D I ⟨x, dv, hm, hv, hd, hs, q⟩ => by
      subst hd
      exact (hsu a oe pn x dv cls hm hv hz hf).run pins s σ H D I ⟨hs, q⟩⟩)
  refine ⟨fun pins s σ H D I h => ?_⟩
  obtain ⟨W, F, A, m, E, G, h, c⟩ := h
  rcases h with h | h
  · exact p1.run pins s σ H D I ⟨W, F, A, m, E, G, h, c⟩
  · refine p2.run pins s σ H D I ⟨W, F, A, m, _, G, h, fun F1 A1 m1 σ1 H1 x v s1 pr1 G1 ev q => ?_⟩
    obtain ⟨hil, d, hmem, q⟩ := q
    refine ⟨true, hx x d hmem v ev, fun _ a _ => ⟨x, d, hmem, ev, rfl, ?_, ?_⟩, fun z => nomatch z⟩
    · rw [List.getElem?_set_self (by rw [← G1.slen]; exact hil)]
    · have ic : isC d = true := List.all_eq_true.mp hok _ hmem
      refine c.rt F1 A1 ⟨m1.sl.set i none, m1.st⟩ (σ1.set i none) H1 (.d d) (cV d) s1 pr1 ⟨G1.ext, G1.hid, G1.dj, by rw [List.length_set, List.length_set]; exact G1.slen, fun j w e => ?_, G1.len, G1.st, G1.nd, G1.tb⟩ (rep_cV ic) q
      by_cases hj : j = i
      · subst hj
        rw [List.getElem?_set_self hil] at e
        cases e
      · rw [List.getElem?_set_ne (Ne.symm hj)] at e
        rw [List.getElem?_set_ne (Ne.symm hj)]
        exact G1.sl j w e
def tryBody : List Stmt → List Stmt
  | .Try b _ _ _ _ :: _ => b
  | _ => []
end RT

set_option maxRecDepth 100000
set_option maxHeartbeats 4000000
namespace PG
open PySem PySem.Spec PyProof.Rows L2 RT

def w_common_divisor : DS := (dSeq (dSet 2 (dBi bAbs (dCons (dVar 0) dNil)))
  (dSeq (dSet 3 (dBi bAbs (dCons (dVar 1) dNil)))
  (dSeq (dWhile (dTest (dOp rGt (dVar 3) (dC (.int 0))))
  (dPar 2 3 (dCons (dVar 3) (dCons (dOp rMod (dVar 2) (dVar 3)) dNil))))
  (dRet (dVar 2)))))
@[irreducible] def sp_common_divisor : FSpec := spOf false 2 4 w_common_divisor

def w_fraction : DS := (dSeq (dSet 2 (dCall PG.sp_common_divisor [] (dCons (dVar 0) (dCons (dVar 1) dNil))))
  (dSeq (dIfS (dTest (dOp rLt (dVar 1) (dC (.int 0))))
  (dSet 2 (rU rNeg (dVar 2)))
  dNext)
  (dRet (dTup (dCons (dOp rDiv (dVar 0) (dVar 2)) (dCons (dOp rDiv (dVar 1) (dVar 2)) dNil))))))
@[irreducible] def sp_fraction : FSpec := spOf false 2 3 w_fraction

def w_add : DS := (dRet (dCall PG.sp_fraction [] (dCons (dOp rAddA (dOp rMul (dOp rIx (dVar 0) (dC (.int 0))) (dOp rIx (dVar 1) (dC (.int 1)))) (dOp rMul (dOp rIx (dVar 1) (dC (.int 0))) (dOp rIx (dVar 0) (dC (.int 1))))) (dCons (dOp rMul (dOp rIx (dVar 0) (dC (.int 1))) (dOp rIx (dVar 1) (dC (.int 1)))) dNil))))
@[irreducible] def sp_add : FSpec := spOf false 2 2 w_add

def w_negative : DS := (dRet (dTup (dCons (rU rNeg (dOp rIx (dVar 0) (dC (.int 0)))) (dCons (dOp rIx (dVar 0) (dC (.int 1))) dNil))))
@[irreducible] def sp_negative : FSpec := spOf false 1 1 w_negative

def w_subtract : DS := (dRet (dCall PG.sp_add [] (dCons (dVar 0) (dCons (dCall PG.sp_negative [] (dCons (dVar 1) dNil)) dNil))))
@[irreducible] def sp_subtract : FSpec := spOf false 2 2 w_subtract

def w_multiply : DS := (dRet (dCall PG.sp_fraction [] (dCons (dOp rMul (dOp rIx (dVar 0) (dC (.int 0))) (dOp rIx (dVar 1) (dC (.int 0)))) (dCons (dOp rMul (dOp rIx (dVar 0) (dC (.int 1))) (dOp rIx (dVar 1) (dC (.int 1)))) dNil))))
@[irreducible] def sp_multiply : FSpec := spOf false 2 2 w_multiply

def w_divide : DS := (dRet (dCall PG.sp_fraction [] (dCons (dOp rMul (dOp rIx (dVar 0) (dC (.int 0))) (dOp rIx (dVar 1) (dC (.int 1)))) (dCons (dOp rMul (dOp rIx (dVar 0) (dC (.int 1))) (dOp rIx (dVar 1) (dC (.int 0)))) dNil))))
@[irreducible] def sp_divide : FSpec := spOf false 2 2 w_divide

def w_sign : DS := (dSeq (dIfS (dTest (dOp rGt (dOp rIx (dVar 0) (dC (.int 0))) (dC (.int 0))))
  (dRet (dC (.int 1)))
  dNext)
  (dSeq (dIfS (dTest (dOp rLt (dOp rIx (dVar 0) (dC (.int 0))) (dC (.int 0))))
  (dRet (rU rNeg (dC (.int 1))))
  dNext)
  (dRet (dC (.int 0)))))
@[irreducible] def sp_sign : FSpec := spOf false 1 1 w_sign

def w_compare : DS := (dRet (dCall PG.sp_sign [] (dCons (dCall PG.sp_subtract [] (dCons (dVar 0) (dCons (dVar 1) dNil))) dNil)))
@[irreducible] def sp_compare : FSpec := spOf false 2 2 w_compare

def w_is_less : DS := (dRet (dOp rLt (dCall PG.sp_compare [] (dCons (dVar 0) (dCons (dVar 1) dNil))) (dC (.int 0))))
@[irreducible] def sp_is_less : FSpec := spOf false 2 2 w_is_less

def w__law_cell : DS := (dSeq (dIfS (dTest (dOp rLt (dVar 1) (dBi bLen (dCons (dVar 0) dNil))))
  (dRet (dOp rIx (dVar 0) (dVar 1)))
  dNext)
  (dRet (dC (.int 0))))
@[irreducible] def sp__law_cell : FSpec := spOf false 2 2 w__law_cell

def w__law_less : DS := (dRet (dOp rLt (dOp rMul (dOp rIx (dVar 0) (dC (.int 0))) (dOp rIx (dVar 1) (dC (.int 1)))) (dOp rMul (dOp rIx (dVar 1) (dC (.int 0))) (dOp rIx (dVar 0) (dC (.int 1))))))
@[irreducible] def sp__law_less : FSpec := spOf false 2 2 w__law_less

def v_ZERO : Dt := .tup [.int 0, .int 1]

def w_least_of : DS := (dSeq (dSet 1 (dC .non))
  (dSeq (dFor (dAny (dVar 0)) (.nm 2)
  (dIfS (dAnd (dTest (dNotN (dVar 2))) (dOr (dTest (dIsN (dVar 1))) (dTru (dCall PG.sp_is_less [] (dCons (dVar 2) (dCons (dVar 1) dNil))))))
  (dSet 1 (dVar 2))
  dNext))
  (dRet (dVar 1))))
@[irreducible] def sp_least_of : FSpec := spOf false 1 3 w_least_of

def w__law_blocks : DS := (dSeq (dIfS (dTest (dOp rNe (dOp rIx (dVar 0) (dC (.int 0))) (dC (.str ("stop" : Str)))))
  (dRet (dC (.bl false)))
  dNext)
  (dSeq (dIfS (dAnd (dTest (dNotN (dOp rIx (dVar 0) (dC (.int 1))))) (dTru (dCall PG.sp__law_less [] (dCons (dOp rIx (dVar 1) (dC (.int 0))) (dCons (dOp rIx (dVar 0) (dC (.int 1))) dNil)))))
  (dRet (dC (.bl true)))
  dNext)
  (dRet (dAndV (dNotN (dOp rIx (dVar 0) (dC (.int 2)))) (dCall PG.sp__law_less [] (dCons (dOp rIx (dVar 0) (dC (.int 2))) (dCons (dOp rIx (dVar 1) (dC (.int 0))) dNil)))))))
@[irreducible] def sp__law_blocks : FSpec := spOf false 2 2 w__law_blocks

def v_ONE : Dt := .tup [.int 1, .int 1]

def v_IDENTITY : Dt := .tup [.tup [.int 1, .int 1], .tup [.int 0, .int 1], .tup [.int 0, .int 1], .tup [.int 1, .int 1], .tup [.int 0, .int 1], .tup [.int 0, .int 1]]

def w_element_map : DS := (dSeq (dIfS (dTest (dOp rEq (dOp rIx (dVar 0) (dC (.int 0))) (dC (.str ("gap" : Str)))))
  (dRet (dTup (dCons (dC PG.v_ONE) (dCons (dOp rIx (dVar 0) (dC (.int 1))) (dCons (dC PG.v_ZERO) (dCons (dC PG.v_ONE) (dCons (dC PG.v_ZERO) (dCons (dC PG.v_ZERO) dNil))))))))
  dNext)
  (dSeq (dIfS (dTest (dOp rEq (dOp rIx (dVar 0) (dC (.int 0))) (dC (.str ("lens" : Str)))))
  (dRet (dTup (dCons (dC PG.v_ONE) (dCons (dC PG.v_ZERO) (dCons (dCall PG.sp_negative [] (dCons (dOp rIx (dVar 0) (dC (.int 1))) dNil)) (dCons (dC PG.v_ONE) (dCons (dC PG.v_ZERO) (dCons (dCall PG.sp_multiply [] (dCons (dOp rIx (dVar 0) (dC (.int 1))) (dCons (dOp rIx (dVar 0) (dC (.int 2))) dNil))) dNil))))))))
  dNext)
  (dSeq (dIfS (dTest (dOp rEq (dOp rIx (dVar 0) (dC (.int 0))) (dC (.str ("prism" : Str)))))
  (dRet (dTup (dCons (dC PG.v_ONE) (dCons (dC PG.v_ZERO) (dCons (dC PG.v_ZERO) (dCons (dC PG.v_ONE) (dCons (dC PG.v_ZERO) (dCons (dOp rIx (dVar 0) (dC (.int 1))) dNil))))))))
  dNext)
  (dSeq (dIfS (dTest (dOp rEq (dOp rIx (dVar 0) (dC (.int 0))) (dC (.str ("afocal" : Str)))))
  (dRet (dTup (dCons (dOp rIx (dVar 0) (dC (.int 1))) (dCons (dC PG.v_ZERO) (dCons (dC PG.v_ZERO) (dCons (dCall PG.sp_divide [] (dCons (dC PG.v_ONE) (dCons (dOp rIx (dVar 0) (dC (.int 1))) dNil))) (dCons (dC PG.v_ZERO) (dCons (dC PG.v_ZERO) dNil))))))))
  dNext)
  (dRet (dC PG.v_IDENTITY))))))
@[irreducible] def sp_element_map : FSpec := spOf false 1 1 w_element_map

def w_weighted : DS := (dRet (dCall PG.sp_add [] (dCons (dCall PG.sp_multiply [] (dCons (dVar 0) (dCons (dVar 1) dNil))) (dCons (dCall PG.sp_multiply [] (dCons (dVar 2) (dCons (dVar 3) dNil))) dNil))))
@[irreducible] def sp_weighted : FSpec := spOf false 4 4 w_weighted

def w_apply_map : DS := (dSeq (dAsg (dVar 0) (.tp [2, 3, 4, 5, 6, 7]))
  (dRet (dTup (dCons (dCall PG.sp_add [] (dCons (dCall PG.sp_weighted [] (dCons (dVar 2) (dCons (dOp rIx (dVar 1) (dC (.int 0))) (dCons (dVar 3) (dCons (dOp rIx (dVar 1) (dC (.int 1))) dNil))))) (dCons (dVar 6) dNil))) (dCons (dCall PG.sp_add [] (dCons (dCall PG.sp_weighted [] (dCons (dVar 4) (dCons (dOp rIx (dVar 1) (dC (.int 0))) (dCons (dVar 5) (dCons (dOp rIx (dVar 1) (dC (.int 1))) dNil))))) (dCons (dVar 7) dNil))) dNil)))))
@[irreducible] def sp_apply_map : FSpec := spOf false 2 8 w_apply_map

def w_compose_maps : DS := (dSeq (dAsg (dVar 0) (.tp [2, 3, 4, 5, 6, 7]))
  (dSeq (dAsg (dVar 1) (.tp [8, 9, 10, 11, 12, 13]))
  (dSeq (dSet 14 (dTup (dCons (dCall PG.sp_weighted [] (dCons (dVar 8) (dCons (dVar 2) (dCons (dVar 9) (dCons (dVar 4) dNil))))) (dCons (dCall PG.sp_weighted [] (dCons (dVar 8) (dCons (dVar 3) (dCons (dVar 9) (dCons (dVar 5) dNil))))) dNil))))
  (dSeq (dSet 15 (dTup (dCons (dCall PG.sp_weighted [] (dCons (dVar 10) (dCons (dVar 2) (dCons (dVar 11) (dCons (dVar 4) dNil))))) (dCons (dCall PG.sp_weighted [] (dCons (dVar 10) (dCons (dVar 3) (dCons (dVar 11) (dCons (dVar 5) dNil))))) dNil))))
  (dSeq (dSet 16 (dTup (dCons (dCall PG.sp_add [] (dCons (dCall PG.sp_weighted [] (dCons (dVar 8) (dCons (dVar 6) (dCons (dVar 9) (dCons (dVar 7) dNil))))) (dCons (dVar 12) dNil))) (dCons (dCall PG.sp_add [] (dCons (dCall PG.sp_weighted [] (dCons (dVar 10) (dCons (dVar 6) (dCons (dVar 11) (dCons (dVar 7) dNil))))) (dCons (dVar 13) dNil))) dNil))))
  (dRet (dOp rAddA (dOp rAddA (dVar 14) (dVar 15)) (dVar 16))))))))
@[irreducible] def sp_compose_maps : FSpec := spOf false 2 17 w_compose_maps

def w_ray_transfer : DS := (dSeq (dSet 1 (dC PG.v_IDENTITY))
  (dSeq (dFor (dAny (dVar 0)) (.nm 2)
  (dSet 1 (dCall PG.sp_compose_maps [] (dCons (dVar 1) (dCons (dCall PG.sp_element_map [] (dCons (dVar 2) dNil)) dNil)))))
  (dRet (dVar 1))))
@[irreducible] def sp_ray_transfer : FSpec := spOf false 1 3 w_ray_transfer

def w__law_row : DS := (dSeq (dSet 3 (dLstO dNil))
  (dSeq (dIfS (dTest (dOp rLt (dVar 0) (dC (.int 0))))
  (dSet 0 (dOp rSub (dC (.int 1)) (dOp rMul (dC (.int 2)) (dVar 0))))
  dNext)
  (dSeq (dIfS (dTest (dOp rGe (dVar 0) (dOp rPow (dC (.int 10)) (dC (.int 18)))))
  (dSeq (dFor (dRange1 (dCons (dC (.int 60)) dNil)) (.nm 4)
  (dIfS (dAnd (dTest (dOp rGt (dVar 0) (dC (.int 0)))) (dTest (dOp rLt (dBi bLen (dCons (dVar 3) dNil)) (dVar 2))))
  (dSeq (dDo (dMeth mAppend (dVar 3) (dCons (dOp rMod (dBi bInt (dCons (dVar 0) dNil)) (dC (.int 1000))) dNil)))
  (dSet 0 (dOp rDiv (dVar 0) (dC (.int 1000)))))
  dNext))
  (dRet (dVar 3)))
  dNext)
  (dSeq (dSet 5 (dOp rMod (dBi bInt (dCons (dOp rAddA (dOp rAddA (dOp rMul (dVar 0) (dC (.int 48271))) (dOp rMul (dVar 1) (dC (.int 69621)))) (dC (.int 11))) dNil)) (dC (.int 2147483647))))
  (dSeq (dFor (dRange1 (dCons (dVar 2) dNil)) (.nm 4)
  (dSeq (dSet 5 (dOp rMod (dBi bInt (dCons (dOp rAddA (dOp rAddA (dOp rMul (dVar 5) (dC (.int 16807))) (dOp rMul (dC (.int 7)) (dVar 4))) (dC (.int 1))) dNil)) (dC (.int 2147483647))))
  (dDo (dMeth mAppend (dVar 3) (dCons (dOp rMod (dBi bInt (dCons (dOp rDiv (dVar 5) (dC (.int 997))) dNil)) (dC (.int 1000))) dNil)))))
  (dRet (dVar 3)))))))
@[irreducible] def sp__law_row : FSpec := spOf false 3 6 w__law_row

def w__law_box : DS := (dSeq (dSet 3 (dLst dNil))
  (dSeq (dFor (dRange2 (dCons (dVar 1) (dCons (dVar 2) dNil))) (.nm 4)
  (dSet 3 (dOp rAddA (dVar 3) (dCall PG.sp__law_row [] (dCons (dCall PG.sp__law_cell [] (dCons (dVar 0) (dCons (dVar 4) dNil))) (dCons (dVar 4) (dCons (dC (.int 12)) dNil)))))))
  (dRet (dLstO (dCons (dVar 3) (dCons (dC (.int 0)) dNil))))))
@[irreducible] def sp__law_box : FSpec := spOf true 3 5 w__law_box

def w__law_draw_2 : DS := (dSeq (dSet 2 (dOp rIx (dVar 0) (dC (.int 1))))
  (dSeq (dSetIx (dOp rAddA (dVar 2) (dC (.int 1))) (dVar 0) (dC (.int 1)))
  (dSeq (dIfS (dTest (dOp rLt (dVar 2) (dBi bLen (dCons (dOp rIx (dVar 0) (dC (.int 0))) dNil))))
  (dRet (dOp rMod (dBi bInt (dCons (dOp rIx (dOp rIx (dVar 0) (dC (.int 0))) (dVar 2)) dNil)) (dVar 1)))
  dNext)
  (dRet (dOp rMod (dBi bInt (dCons (dOp rAddA (dOp rMul (dVar 2) (dC (.int 7))) (dC (.int 3))) dNil)) (dVar 1))))))
@[irreducible] def sp__law_draw_2 : FSpec := spOf false 2 3 w__law_draw_2

def w__law_same : DS := (dRet (dOp rEqT (dBi bRepr (dCons (dVar 0) dNil)) (dBi bRepr (dCons (dVar 1) dNil))))
@[irreducible] def sp__law_same : FSpec := spOf false 2 2 w__law_same

def w__law_neg : DS := (dRet (dTup (dCons (rU rNeg (dOp rIx (dVar 0) (dC (.int 0)))) (dCons (dOp rIx (dVar 0) (dC (.int 1))) dNil))))
@[irreducible] def sp__law_neg : FSpec := spOf false 1 1 w__law_neg

def w__law_frac_2 : DS := (dSeq (dSet 2 (dBi bAbs (dCons (dVar 0) dNil)))
  (dSeq (dSet 3 (dBi bAbs (dCons (dVar 1) dNil)))
  (dSeq (dWhile (dTest (dOp rGt (dVar 3) (dC (.int 0))))
  (dPar 2 3 (dCons (dVar 3) (dCons (dOp rMod (dBi bInt (dCons (dVar 2) dNil)) (dVar 3)) dNil))))
  (dSeq (dIfS (dTest (dOp rLt (dVar 1) (dC (.int 0))))
  (dSet 2 (rU rNeg (dVar 2)))
  dNext)
  (dRet (dTup (dCons (dOp rDiv (dVar 0) (dVar 2)) (dCons (dOp rDiv (dVar 1) (dVar 2)) dNil))))))))
@[irreducible] def sp__law_frac_2 : FSpec := spOf false 2 4 w__law_frac_2

def w__law_add_3 : DS := (dRet (dCall PG.sp__law_frac_2 [] (dCons (dOp rAddA (dOp rMul (dOp rIx (dVar 0) (dC (.int 0))) (dOp rIx (dVar 1) (dC (.int 1)))) (dOp rMul (dOp rIx (dVar 1) (dC (.int 0))) (dOp rIx (dVar 0) (dC (.int 1))))) (dCons (dOp rMul (dOp rIx (dVar 0) (dC (.int 1))) (dOp rIx (dVar 1) (dC (.int 1)))) dNil))))
@[irreducible] def sp__law_add_3 : FSpec := spOf false 2 2 w__law_add_3

def w__law_sub_3 : DS := (dRet (dCall PG.sp__law_add_3 [] (dCons (dVar 0) (dCons (dCall PG.sp__law_neg [] (dCons (dVar 1) dNil)) dNil))))
@[irreducible] def sp__law_sub_3 : FSpec := spOf false 2 2 w__law_sub_3

def w__law_mul_3 : DS := (dRet (dCall PG.sp__law_frac_2 [] (dCons (dOp rMul (dOp rIx (dVar 0) (dC (.int 0))) (dOp rIx (dVar 1) (dC (.int 0)))) (dCons (dOp rMul (dOp rIx (dVar 0) (dC (.int 1))) (dOp rIx (dVar 1) (dC (.int 1)))) dNil))))
@[irreducible] def sp__law_mul_3 : FSpec := spOf false 2 2 w__law_mul_3

def w__law_div_2 : DS := (dRet (dCall PG.sp__law_frac_2 [] (dCons (dOp rMul (dOp rIx (dVar 0) (dC (.int 0))) (dOp rIx (dVar 1) (dC (.int 1)))) (dCons (dOp rMul (dOp rIx (dVar 0) (dC (.int 1))) (dOp rIx (dVar 1) (dC (.int 0)))) dNil))))
@[irreducible] def sp__law_div_2 : FSpec := spOf false 2 2 w__law_div_2

def w__law_fraction_2 : DS := (dRet (dCall PG.sp__law_frac_2 [] (dCons (dOp rSub (dCall PG.sp__law_draw_2 [] (dCons (dVar 0) (dCons (dC (.int 9)) dNil))) (dC (.int 4))) (dCons (dOp rIx (dLst (dCons (dC (.int 1)) (dCons (dC (.int 1)) (dCons (dC (.int 2)) (dCons (dC (.int 3)) dNil))))) (dCall PG.sp__law_draw_2 [] (dCons (dVar 0) (dCons (dC (.int 4)) dNil)))) dNil))))
@[irreducible] def sp__law_fraction_2 : FSpec := spOf false 1 1 w__law_fraction_2

def w__law_nonzero_2 : DS := (dSeq (dSet 1 (dCall PG.sp__law_fraction_2 [] (dCons (dVar 0) dNil)))
  (dSeq (dIfS (dTest (dOp rEq (dOp rIx (dVar 1) (dC (.int 0))) (dC (.int 0))))
  (dRet (dTup (dCons (dC (.int 1)) (dCons (dC (.int 2)) dNil))))
  dNext)
  (dRet (dVar 1))))
@[irreducible] def sp__law_nonzero_2 : FSpec := spOf false 1 2 w__law_nonzero_2

def w__law_stop_3 : DS := (dSeq (dSet 1 (dCall PG.sp__law_fraction_2 [] (dCons (dVar 0) dNil)))
  (dSeq (dSet 2 (dCall PG.sp__law_add_3 [] (dCons (dVar 1) (dCons (dCall PG.sp__law_frac_2 [] (dCons (dCall PG.sp__law_draw_2 [] (dCons (dVar 0) (dCons (dC (.int 9)) dNil))) (dCons (dC (.int 2)) dNil))) dNil))))
  (dSeq (dSet 3 (dCall PG.sp__law_draw_2 [] (dCons (dVar 0) (dCons (dC (.int 8)) dNil))))
  (dSeq (dIfS (dTest (dOp rEq (dVar 3) (dC (.int 0))))
  (dRet (dTup (dCons (dC (.str ("stop" : Str))) (dCons (dC .non) (dCons (dVar 2) dNil)))))
  dNext)
  (dSeq (dIfS (dTest (dOp rEq (dVar 3) (dC (.int 1))))
  (dRet (dTup (dCons (dC (.str ("stop" : Str))) (dCons (dVar 1) (dCons (dC .non) dNil)))))
  dNext)
  (dRet (dTup (dCons (dC (.str ("stop" : Str))) (dCons (dVar 1) (dCons (dVar 2) dNil))))))))))
@[irreducible] def sp__law_stop_3 : FSpec := spOf false 1 4 w__law_stop_3

def w__law_element_3 : DS := (dSeq (dSet 1 (dCall PG.sp__law_draw_2 [] (dCons (dVar 0) (dCons (dC (.int 9)) dNil))))
  (dSeq (dIfS (dTest (dOp rLt (dVar 1) (dC (.int 2))))
  (dRet (dTup (dCons (dC (.str ("gap" : Str))) (dCons (dCall PG.sp__law_fraction_2 [] (dCons (dVar 0) dNil)) dNil))))
  dNext)
  (dSeq (dIfS (dTest (dOp rLt (dVar 1) (dC (.int 4))))
  (dRet (dTup (dCons (dC (.str ("lens" : Str))) (dCons (dCall PG.sp__law_fraction_2 [] (dCons (dVar 0) dNil)) (dCons (dOp rIx (dLst (dCons (dTup (dCons (dC (.int 0)) (dCons (dC (.int 1)) dNil))) (dCons (dCall PG.sp__law_fraction_2 [] (dCons (dVar 0) dNil)) dNil))) (dCall PG.sp__law_draw_2 [] (dCons (dVar 0) (dCons (dC (.int 2)) dNil)))) dNil)))))
  dNext)
  (dSeq (dIfS (dTest (dOp rEq (dVar 1) (dC (.int 4))))
  (dRet (dTup (dCons (dC (.str ("prism" : Str))) (dCons (dCall PG.sp__law_fraction_2 [] (dCons (dVar 0) dNil)) dNil))))
  dNext)
  (dSeq (dIfS (dTest (dOp rEq (dVar 1) (dC (.int 5))))
  (dRet (dTup (dCons (dC (.str ("afocal" : Str))) (dCons (dCall PG.sp__law_nonzero_2 [] (dCons (dVar 0) dNil)) dNil))))
  dNext)
  (dRet (dCall PG.sp__law_stop_3 [] (dCons (dVar 0) dNil))))))))
@[irreducible] def sp__law_element_3 : FSpec := spOf false 1 2 w__law_element_3

def w__law_train_3 : DS := (dRet (dLc false (dRange1 (dCons (dCall PG.sp__law_draw_2 [] (dCons (dVar 0) (dCons (dOp rAddA (dVar 1) (dC (.int 1))) dNil))) dNil)) (.nm 2) dYes (dCall PG.sp__law_element_3 [] (dCons (dVar 0) dNil)) [2]))
@[irreducible] def sp__law_train_3 : FSpec := spOf false 2 3 w__law_train_3

def w__law_ray_2 : DS := (dRet (dTup (dCons (dCall PG.sp__law_fraction_2 [] (dCons (dVar 0) dNil)) (dCons (dCall PG.sp__law_fraction_2 [] (dCons (dVar 0) dNil)) dNil))))
@[irreducible] def sp__law_ray_2 : FSpec := spOf false 1 1 w__law_ray_2

def w__law_go_3 : DS := (dSeq (dAsg (dVar 1) (.tp [2, 3]))
  (dSeq (dIfS (dTest (dOp rEq (dOp rIx (dVar 0) (dC (.int 0))) (dC (.str ("gap" : Str)))))
  (dRet (dTup (dCons (dCall PG.sp__law_add_3 [] (dCons (dVar 2) (dCons (dCall PG.sp__law_mul_3 [] (dCons (dOp rIx (dVar 0) (dC (.int 1))) (dCons (dVar 3) dNil))) dNil))) (dCons (dVar 3) dNil))))
  dNext)
  (dSeq (dIfS (dTest (dOp rEq (dOp rIx (dVar 0) (dC (.int 0))) (dC (.str ("lens" : Str)))))
  (dRet (dTup (dCons (dVar 2) (dCons (dCall PG.sp__law_sub_3 [] (dCons (dVar 3) (dCons (dCall PG.sp__law_mul_3 [] (dCons (dOp rIx (dVar 0) (dC (.int 1))) (dCons (dCall PG.sp__law_sub_3 [] (dCons (dVar 2) (dCons (dOp rIx (dVar 0) (dC (.int 2))) dNil))) dNil))) dNil))) dNil))))
  dNext)
  (dSeq (dIfS (dTest (dOp rEq (dOp rIx (dVar 0) (dC (.int 0))) (dC (.str ("prism" : Str)))))
  (dRet (dTup (dCons (dVar 2) (dCons (dCall PG.sp__law_add_3 [] (dCons (dVar 3) (dCons (dOp rIx (dVar 0) (dC (.int 1))) dNil))) dNil))))
  dNext)
  (dSeq (dIfS (dTest (dOp rEq (dOp rIx (dVar 0) (dC (.int 0))) (dC (.str ("afocal" : Str)))))
  (dRet (dTup (dCons (dCall PG.sp__law_mul_3 [] (dCons (dOp rIx (dVar 0) (dC (.int 1))) (dCons (dVar 2) dNil))) (dCons (dCall PG.sp__law_div_2 [] (dCons (dVar 3) (dCons (dOp rIx (dVar 0) (dC (.int 1))) dNil))) dNil))))
  dNext)
  (dRet (dVar 1)))))))
@[irreducible] def sp__law_go_3 : FSpec := spOf false 2 4 w__law_go_3

def w__law_out_2 : DS := (dSeq (dFor (dAny (dVar 0)) (.nm 2)
  (dSet 1 (dCall PG.sp__law_go_3 [] (dCons (dVar 2) (dCons (dVar 1) dNil)))))
  (dRet (dVar 1)))
@[irreducible] def sp__law_out_2 : FSpec := spOf false 2 3 w__law_out_2

def w__law_map_2 : DS := (dSeq (dSet 1 (dCall PG.sp__law_out_2 [] (dCons (dVar 0) (dCons (dTup (dCons (dTup (dCons (dC (.int 0)) (dCons (dC (.int 1)) dNil))) (dCons (dTup (dCons (dC (.int 0)) (dCons (dC (.int 1)) dNil))) dNil))) dNil))))
  (dSeq (dSet 2 (dCall PG.sp__law_out_2 [] (dCons (dVar 0) (dCons (dTup (dCons (dTup (dCons (dC (.int 1)) (dCons (dC (.int 1)) dNil))) (dCons (dTup (dCons (dC (.int 0)) (dCons (dC (.int 1)) dNil))) dNil))) dNil))))
  (dSeq (dSet 3 (dCall PG.sp__law_out_2 [] (dCons (dVar 0) (dCons (dTup (dCons (dTup (dCons (dC (.int 0)) (dCons (dC (.int 1)) dNil))) (dCons (dTup (dCons (dC (.int 1)) (dCons (dC (.int 1)) dNil))) dNil))) dNil))))
  (dSeq (dSet 4 (dTup (dCons (dCall PG.sp__law_sub_3 [] (dCons (dOp rIx (dVar 2) (dC (.int 0))) (dCons (dOp rIx (dVar 1) (dC (.int 0))) dNil))) (dCons (dCall PG.sp__law_sub_3 [] (dCons (dOp rIx (dVar 3) (dC (.int 0))) (dCons (dOp rIx (dVar 1) (dC (.int 0))) dNil))) dNil))))
  (dSeq (dSet 5 (dTup (dCons (dCall PG.sp__law_sub_3 [] (dCons (dOp rIx (dVar 2) (dC (.int 1))) (dCons (dOp rIx (dVar 1) (dC (.int 1))) dNil))) (dCons (dCall PG.sp__law_sub_3 [] (dCons (dOp rIx (dVar 3) (dC (.int 1))) (dCons (dOp rIx (dVar 1) (dC (.int 1))) dNil))) dNil))))
  (dRet (dOp rAddA (dOp rAddA (dVar 4) (dVar 5)) (dVar 1))))))))
@[irreducible] def sp__law_map_2 : FSpec := spOf false 1 6 w__law_map_2

def w__law_least_3 : DS := (dSeq (dSet 1 (dC .non))
  (dSeq (dFor (dAny (dVar 0)) (.nm 2)
  (dIfS (dOr (dTest (dIsN (dVar 1))) (dTru (dCall PG.sp__law_less [] (dCons (dVar 2) (dCons (dVar 1) dNil)))))
  (dSet 1 (dVar 2))
  dNext))
  (dRet (dVar 1))))
@[irreducible] def sp__law_least_3 : FSpec := spOf false 1 3 w__law_least_3

def w__law_greatest : DS := (dSeq (dSet 1 (dC .non))
  (dSeq (dFor (dAny (dVar 0)) (.nm 2)
  (dIfS (dOr (dTest (dIsN (dVar 1))) (dTru (dCall PG.sp__law_less [] (dCons (dVar 1) (dCons (dVar 2) dNil)))))
  (dSet 1 (dVar 2))
  dNext))
  (dRet (dVar 1))))
@[irreducible] def sp__law_greatest : FSpec := spOf false 1 3 w__law_greatest

def w__law_exit : DS := (dSeq (dFor (dAny (dVar 0)) (.nm 2)
  (dSeq (dIfS (dTru (dCall PG.sp__law_blocks [] (dCons (dVar 2) (dCons (dVar 1) dNil))))
  (dRet (dC .non))
  dNext)
  (dSet 1 (dCall PG.sp__law_go_3 [] (dCons (dVar 2) (dCons (dVar 1) dNil))))))
  (dRet (dVar 1)))
@[irreducible] def sp__law_exit : FSpec := spOf false 2 3 w__law_exit

def w__law_plane_3 : DS := (dSeq (dSet 3 (dOp rMul (dOp rMul (dOp rIx (dVar 0) (dC (.int 1))) (dOp rIx (dVar 1) (dC (.int 1)))) (dOp rIx (dVar 2) (dC (.int 1)))))
  (dSeq (dSet 5 (dLc false (dAny (dLst (dCons (dVar 0) (dCons (dVar 1) (dCons (dVar 2) dNil))))) (.nm 4) dYes (dOp rMul (dOp rIx (dVar 4) (dC (.int 0))) (dOp rDiv (dVar 3) (dOp rIx (dVar 4) (dC (.int 1))))) [4]))
  (dSeq (dSet 6 (dC (.int 0)))
  (dSeq (dFor (dAny (dVar 5)) (.nm 4)
  (dSeq (dSet 7 (dBi bAbs (dCons (dVar 4) dNil)))
  (dWhile (dTest (dOp rGt (dVar 7) (dC (.int 0))))
  (dPar 6 7 (dCons (dVar 7) (dCons (dOp rMod (dBi bInt (dCons (dVar 6) dNil)) (dVar 7)) dNil))))))
  (dRet (dTup (dCons (dOp rDiv (dOp rIx (dVar 5) (dC (.int 0))) (dVar 6)) (dCons (dOp rDiv (dOp rIx (dVar 5) (dC (.int 1))) (dVar 6)) (dCons (dOp rDiv (dOp rIx (dVar 5) (dC (.int 2))) (dVar 6)) dNil)))))))))
@[irreducible] def sp__law_plane_3 : FSpec := spOf false 3 8 w__law_plane_3

def w__law_edges : DS := (dSeq (dSet 1 (dLstO dNil))
  (dSeq (dFor (dRange1 (dCons (dBi bLen (dCons (dVar 0) dNil)) dNil)) (.nm 2)
  (dSeq (dSet 3 (dOp rIx (dVar 0) (dVar 2)))
  (dIfS (dTest (dOp rEq (dOp rIx (dVar 3) (dC (.int 0))) (dC (.str ("stop" : Str)))))
  (dSeq (dAsg (dCall PG.sp__law_map_2 [] (dCons (dSl false (dVar 0) dNoP (dPart (dVar 2))) dNil)) (.tp [4, 5, 6, 7, 8, 9]))
  (dSeq (dIfS (dTest (dNotN (dOp rIx (dVar 3) (dC (.int 1)))))
  (dDo (dMeth mAppend (dVar 1) (dCons (dTup (dCons (dTup (dCons (dVar 2) (dCons (dC (.str ("lower" : Str))) dNil))) (dCons (dCall PG.sp__law_plane_3 [] (dCons (dCall PG.sp__law_neg [] (dCons (dVar 4) dNil)) (dCons (dCall PG.sp__law_neg [] (dCons (dVar 5) dNil)) (dCons (dCall PG.sp__law_sub_3 [] (dCons (dVar 8) (dCons (dOp rIx (dVar 3) (dC (.int 1))) dNil))) dNil)))) dNil))) dNil)))
  dNext)
  (dIfS (dTest (dNotN (dOp rIx (dVar 3) (dC (.int 2)))))
  (dDo (dMeth mAppend (dVar 1) (dCons (dTup (dCons (dTup (dCons (dVar 2) (dCons (dC (.str ("upper" : Str))) dNil))) (dCons (dCall PG.sp__law_plane_3 [] (dCons (dVar 4) (dCons (dVar 5) (dCons (dCall PG.sp__law_sub_3 [] (dCons (dOp rIx (dVar 3) (dC (.int 2))) (dCons (dVar 8) dNil))) dNil)))) dNil))) dNil)))
  dNext)))
  dNext)))
  (dRet (dVar 1))))
@[irreducible] def sp__law_edges : FSpec := spOf false 1 10 w__law_edges

def w__law_line : DS := (dSeq (dAsgL (dLc false (dAny (dVar 0)) (.nm 7) dYes (dTup (dCons (dVar 7) (dCons (dC (.int 1)) dNil))) [7]) [3, 4, 5])
  (dSeq (dIfS (dTest (dOp rNe (dOp rIx (dVar 2) (dC (.int 0))) (dC (.int 0))))
  (dSeq (dSet 6 (dCall PG.sp__law_div_2 [] (dCons (dVar 4) (dCons (dVar 2) dNil))))
  (dRet (dTup (dCons (dVar 6) (dCons (dCall PG.sp__law_sub_3 [] (dCons (dVar 3) (dCons (dCall PG.sp__law_mul_3 [] (dCons (dVar 6) (dCons (dVar 1) dNil))) dNil))) (dCons (dVar 5) dNil))))))
  dNext)
  (dRet (dTup (dCons (dCall PG.sp__law_div_2 [] (dCons (dVar 3) (dCons (dVar 1) dNil))) (dCons (dVar 4) (dCons (dVar 5) dNil)))))))
@[irreducible] def sp__law_line : FSpec := spOf false 3 8 w__law_line

def w__law_bounds : DS := (dSeq (dSet 3 (dLc false (dAny (dVar 0)) (.nm 14) dYes (dCall PG.sp__law_line [] (dCons (dVar 14) (dCons (dVar 1) (dCons (dVar 2) dNil)))) [14]))
  (dSeq (dSet 4 (dLc true (dAny (dVar 3)) (.nm 15) (dTest (dOp rEq (dOp rIx (dOp rIx (dVar 15) (dC (.int 1))) (dC (.int 0))) (dC (.int 0)))) (dVar 15) [15]))
  (dSeq (dFor (dAny (dLc false (dAny (dVar 3)) (.nm 15) (dTest (dOp rGt (dOp rIx (dOp rIx (dVar 15) (dC (.int 1))) (dC (.int 0))) (dC (.int 0)))) (dVar 15) [15])) (.nm 5)
  (dFor (dAny (dLc false (dAny (dVar 3)) (.nm 15) (dTest (dOp rLt (dOp rIx (dOp rIx (dVar 15) (dC (.int 1))) (dC (.int 0))) (dC (.int 0)))) (dVar 15) [15])) (.nm 6)
  (dSeq (dSet 7 (dCall PG.sp__law_neg [] (dCons (dCall PG.sp__law_div_2 [] (dCons (dOp rIx (dVar 5) (dC (.int 1))) (dCons (dOp rIx (dVar 6) (dC (.int 1))) dNil))) dNil)))
  (dSeq (dSet 8 (dCall PG.sp__law_add_3 [] (dCons (dOp rIx (dVar 5) (dC (.int 0))) (dCons (dCall PG.sp__law_mul_3 [] (dCons (dVar 7) (dCons (dOp rIx (dVar 6) (dC (.int 0))) dNil))) dNil))))
  (dDo (dMeth mAppend (dVar 4) (dCons (dTup (dCons (dVar 8) (dCons (dTup (dCons (dC (.int 0)) (dCons (dC (.int 1)) dNil))) (dCons (dCall PG.sp__law_add_3 [] (dCons (dOp rIx (dVar 5) (dC (.int 2))) (dCons (dCall PG.sp__law_mul_3 [] (dCons (dVar 7) (dCons (dOp rIx (dVar 6) (dC (.int 2))) dNil))) dNil))) dNil)))) dNil)))))))
  (dSeq (dSet 9 (dLstO dNil))
  (dSeq (dSet 10 (dLstO dNil))
  (dSeq (dFor (dAny (dVar 4)) (.nm 11)
  (dSeq (dIfS (dAnd (dTest (dOp rEq (dOp rIx (dOp rIx (dVar 11) (dC (.int 0))) (dC (.int 0))) (dC (.int 0)))) (dTest (dOp rLt (dOp rIx (dOp rIx (dVar 11) (dC (.int 2))) (dC (.int 0))) (dC (.int 0)))))
  (dRet (dTup dNil))
  dNext)
  (dSeq (dIfS (dTest (dOp rGt (dOp rIx (dOp rIx (dVar 11) (dC (.int 0))) (dC (.int 0))) (dC (.int 0))))
  (dDo (dMeth mAppend (dVar 10) (dCons (dCall PG.sp__law_div_2 [] (dCons (dOp rIx (dVar 11) (dC (.int 2))) (dCons (dOp rIx (dVar 11) (dC (.int 0))) dNil))) dNil)))
  dNext)
  (dIfS (dTest (dOp rLt (dOp rIx (dOp rIx (dVar 11) (dC (.int 0))) (dC (.int 0))) (dC (.int 0))))
  (dDo (dMeth mAppend (dVar 9) (dCons (dCall PG.sp__law_div_2 [] (dCons (dOp rIx (dVar 11) (dC (.int 2))) (dCons (dOp rIx (dVar 11) (dC (.int 0))) dNil))) dNil)))
  dNext))))
  (dSeq (dSet 12 (dCall PG.sp__law_greatest [] (dCons (dFz 9) dNil)))
  (dSeq (dSet 13 (dCall PG.sp__law_least_3 [] (dCons (dFz 10) dNil)))
  (dSeq (dIfS (dAnd (dTest (dNotN (dVar 12))) (dAnd (dTest (dNotN (dVar 13))) (dTru (dCall PG.sp__law_less [] (dCons (dVar 13) (dCons (dVar 12) dNil))))))
  (dRet (dTup dNil))
  dNext)
  (dRet (dTup (dCons (dVar 12) (dCons (dVar 13) dNil)))))))))))))
@[irreducible] def sp__law_bounds : FSpec := spOf false 3 16 w__law_bounds

def w__law_empty : DS := (dRet (dOp rEq (dCall PG.sp__law_bounds [] (dCons (dVar 0) (dCons (dTup (dCons (dC (.int 1)) (dCons (dC (.int 1)) dNil))) (dCons (dTup (dCons (dC (.int 0)) (dCons (dC (.int 1)) dNil))) dNil)))) (dTup dNil)))
@[irreducible] def sp__law_empty : FSpec := spOf false 1 1 w__law_empty

def w__law_near_2 : DS := (dSeq (dIfS (dAnd (dTest (dNotN (dOp rIx (dVar 0) (dC (.int 0))))) (dTest (dOp rGt (dOp rIx (dOp rIx (dVar 0) (dC (.int 0))) (dC (.int 0))) (dC (.int 0)))))
  (dRet (dOp rIx (dVar 0) (dC (.int 0))))
  dNext)
  (dSeq (dIfS (dAnd (dTest (dNotN (dOp rIx (dVar 0) (dC (.int 1))))) (dTest (dOp rLt (dOp rIx (dOp rIx (dVar 0) (dC (.int 1))) (dC (.int 0))) (dC (.int 0)))))
  (dRet (dOp rIx (dVar 0) (dC (.int 1))))
  dNext)
  (dRet (dTup (dCons (dC (.int 0)) (dCons (dC (.int 1)) dNil))))))
@[irreducible] def sp__law_near_2 : FSpec := spOf false 1 1 w__law_near_2

def w__law_sample : DS := (dSeq (dSet 1 (dCall PG.sp__law_near_2 [] (dCons (dCall PG.sp__law_bounds [] (dCons (dVar 0) (dCons (dTup (dCons (dC (.int 1)) (dCons (dC (.int 1)) dNil))) (dCons (dTup (dCons (dC (.int 0)) (dCons (dC (.int 1)) dNil))) dNil)))) dNil)))
  (dSeq (dSet 2 (dLst (dCons (dCall PG.sp__law_plane_3 [] (dCons (dTup (dCons (dC (.int 1)) (dCons (dC (.int 1)) dNil))) (dCons (dTup (dCons (dC (.int 0)) (dCons (dC (.int 1)) dNil))) (dCons (dVar 1) dNil)))) (dCons (dCall PG.sp__law_plane_3 [] (dCons (dTup (dCons (rU rNeg (dC (.int 1))) (dCons (dC (.int 1)) dNil))) (dCons (dTup (dCons (dC (.int 0)) (dCons (dC (.int 1)) dNil))) (dCons (dCall PG.sp__law_neg [] (dCons (dVar 1) dNil)) dNil)))) dNil))))
  (dRet (dTup (dCons (dVar 1) (dCons (dCall PG.sp__law_near_2 [] (dCons (dCall PG.sp__law_bounds [] (dCons (dOp rAddA (dVar 0) (dVar 2)) (dCons (dTup (dCons (dC (.int 0)) (dCons (dC (.int 1)) dNil))) (dCons (dTup (dCons (dC (.int 1)) (dCons (dC (.int 1)) dNil))) dNil)))) dNil)) dNil))))))
@[irreducible] def sp__law_sample : FSpec := spOf false 1 3 w__law_sample

def w__law_planes_3 : DS := (dRet (dLc false (dAny (dCall PG.sp__law_edges [] (dCons (dVar 0) dNil))) (.nm 1) dYes (dOp rIx (dVar 1) (dC (.int 1))) [1]))
@[irreducible] def sp__law_planes_3 : FSpec := spOf false 1 2 w__law_planes_3

def w_edges_of_2 : DS := (dSeq (dSet 1 (dLstO dNil))
  (dSeq (dFor (dEnum (dCons (dVar 0) dNil)) (.tp [2, 3])
  (dIfS (dTest (dOp rEq (dOp rIx (dVar 3) (dC (.int 0))) (dC (.str ("stop" : Str)))))
  (dSeq (dIfS (dTest (dNotN (dOp rIx (dVar 3) (dC (.int 1)))))
  (dDo (dMeth mAppend (dVar 1) (dCons (dTup (dCons (dTup (dCons (dVar 2) (dCons (dC (.str ("lower" : Str))) dNil))) (dCons (dOp rIx (dVar 3) (dC (.int 1))) dNil))) dNil)))
  dNext)
  (dIfS (dTest (dNotN (dOp rIx (dVar 3) (dC (.int 2)))))
  (dDo (dMeth mAppend (dVar 1) (dCons (dTup (dCons (dTup (dCons (dVar 2) (dCons (dC (.str ("upper" : Str))) dNil))) (dCons (dOp rIx (dVar 3) (dC (.int 2))) dNil))) dNil)))
  dNext))
  dNext))
  (dRet (dVar 1))))
@[irreducible] def sp_edges_of_2 : FSpec := spOf false 1 4 w_edges_of_2

def w_clearance : DS := (dSeq (dSet 4 (dOp rIx (dCall PG.sp_apply_map [] (dCons (dCall PG.sp_ray_transfer [] (dCons (dSl false (dVar 0) dNoP (dPart (dOp rIx (dVar 1) (dC (.int 0))))) dNil)) (dCons (dVar 3) dNil))) (dC (.int 0))))
  (dSeq (dIfS (dTest (dOp rEq (dOp rIx (dVar 1) (dC (.int 1))) (dC (.str ("lower" : Str)))))
  (dRet (dCall PG.sp_subtract [] (dCons (dVar 4) (dCons (dVar 2) dNil))))
  dNext)
  (dRet (dCall PG.sp_subtract [] (dCons (dVar 2) (dCons (dVar 4) dNil))))))
@[irreducible] def sp_clearance : FSpec := spOf false 4 5 w_clearance

def w_clearances : DS := (dSeq (dIfS (dNot (dTru (dVar 1)))
  dNever
  dNext)
  (dRet (dLc false (dAny (dCall PG.sp_edges_of_2 [] (dCons (dVar 0) dNil))) (.tp [2, 3]) dYes (dTup (dCons (dVar 2) (dCons (dCall PG.sp_least_of [] (dCons (dLc false (dAny (dVar 1)) (.nm 4) dYes (dCall PG.sp_clearance [] (dCons (dVar 0) (dCons (dVar 2) (dCons (dVar 3) (dCons (dVar 4) dNil))))) [4]) dNil)) dNil))) [2, 3])))
@[irreducible] def sp_clearances : FSpec := spOf false 2 5 w_clearances

def w_x_clearances : DX := (dIfX (dNot (dTru (dVar 1))) (dRaise ("NoRays" : Str)))
@[irreducible] def sp_x_clearances : FSpecX := spXOf 2 5 w_x_clearances

def w__law_due_5 : DS := (dSeq (dSet 2 (dLstO dNil))
  (dSeq (dFor (dRange1 (dCons (dBi bLen (dCons (dVar 0) dNil)) dNil)) (.nm 3)
  (dIfS (dTest (dOp rEq (dOp rIx (dOp rIx (dVar 0) (dVar 3)) (dC (.int 0))) (dC (.str ("stop" : Str)))))
  (dSeq (dSet 4 (dLc false (dAny (dVar 1)) (.nm 5) dYes (dOp rIx (dCall PG.sp__law_out_2 [] (dCons (dSl false (dVar 0) dNoP (dPart (dVar 3))) (dCons (dVar 5) dNil))) (dC (.int 0))) [5]))
  (dSeq (dIfS (dTest (dNotN (dOp rIx (dOp rIx (dVar 0) (dVar 3)) (dC (.int 1)))))
  (dDo (dMeth mAppend (dVar 2) (dCons (dTup (dCons (dTup (dCons (dVar 3) (dCons (dC (.str ("lower" : Str))) dNil))) (dCons (dCall PG.sp__law_sub_3 [] (dCons (dCall PG.sp__law_least_3 [] (dCons (dVar 4) dNil)) (dCons (dOp rIx (dOp rIx (dVar 0) (dVar 3)) (dC (.int 1))) dNil))) dNil))) dNil)))
  dNext)
  (dIfS (dTest (dNotN (dOp rIx (dOp rIx (dVar 0) (dVar 3)) (dC (.int 2)))))
  (dDo (dMeth mAppend (dVar 2) (dCons (dTup (dCons (dTup (dCons (dVar 3) (dCons (dC (.str ("upper" : Str))) dNil))) (dCons (dCall PG.sp__law_sub_3 [] (dCons (dOp rIx (dOp rIx (dVar 0) (dVar 3)) (dC (.int 2))) (dCons (dCall PG.sp__law_greatest [] (dCons (dVar 4) dNil)) dNil))) dNil))) dNil)))
  dNext)))
  dNext))
  (dRet (dVar 2))))
@[irreducible] def sp__law_due_5 : FSpec := spOf false 2 6 w__law_due_5

def w__law_refuses : DS := (dSeq (dTry (dDo (dCall PG.sp_clearances [] (dCons (dVar 0) (dCons (dLst dNil) dNil)))) (dCallX PG.sp_x_clearances (dCons (dVar 0) (dCons (dLst dNil) dNil))) 1 [(("NoRays" : Str), .bl true)])
  (dRet (dC (.bl false))))
@[irreducible] def sp__law_refuses : FSpec := spOf false 1 2 w__law_refuses

def w_law_33 : DS := (dSeq (dSet 1 (dCall PG.sp__law_box [] (dCons (dVar 0) (dCons (dC (.int 0)) (dCons (dC (.int 40)) dNil)))))
  (dSeq (dFor (dRange1 (dCons (dC (.int 2)) dNil)) (.nm 2)
  (dSeq (dSet 3 (dCall PG.sp__law_train_3 [] (dCons (dVar 1) (dCons (dC (.int 8)) dNil))))
  (dSeq (dSet 4 (dLc false (dRange1 (dCons (dOp rAddA (dC (.int 1)) (dCall PG.sp__law_draw_2 [] (dCons (dVar 1) (dCons (dC (.int 3)) dNil)))) dNil)) (.nm 10) dYes (dCall PG.sp__law_ray_2 [] (dCons (dVar 1) dNil)) [10]))
  (dSeq (dSet 5 (dCall PG.sp__law_planes_3 [] (dCons (dVar 3) dNil)))
  (dSeq (dIfS (dAnd (dTest (dOp rEq (dCall PG.sp__law_draw_2 [] (dCons (dVar 1) (dCons (dC (.int 2)) dNil))) (dC (.int 0)))) (dNot (dTru (dCall PG.sp__law_empty [] (dCons (dVar 5) dNil)))))
  (dSeq (dSet 6 (dCall PG.sp__law_sample [] (dCons (dVar 5) dNil)))
  (dSet 4 (dOp rAddA (dLst (dCons (dVar 6) dNil)) (dLc false (dAny (dVar 4)) (.nm 11) (dTest (dOp rEq (dCall PG.sp__law_draw_2 [] (dCons (dVar 1) (dCons (dC (.int 3)) dNil))) (dC (.int 0)))) (dVar 11) [11]))))
  dNext)
  (dSeq (dSet 7 (dBi bRepr (dCons (dTup (dCons (dVar 3) (dCons (dVar 4) dNil))) dNil)))
  (dSeq (dSet 8 (dCall PG.sp_clearances [] (dCons (dVar 3) (dCons (dVar 4) dNil))))
  (dSeq (dIfS (dOr (dNot (dTru (dCall PG.sp__law_same [] (dCons (dVar 8) (dCons (dCall PG.sp__law_due_5 [] (dCons (dVar 3) (dCons (dVar 4) dNil))) dNil))))) (dTest (dOp rNeT (dBi bRepr (dCons (dTup (dCons (dVar 3) (dCons (dVar 4) dNil))) dNil)) (dVar 7))))
  (dRet (dC (.bl false)))
  dNext)
  (dSeq (dSet 9 (dLc false (dAny (dVar 4)) (.nm 6) (dTest (dIsN (dCall PG.sp__law_exit [] (dCons (dVar 3) (dCons (dVar 6) dNil))))) (dC (.int 1)) [6]))
  (dSeq (dIfS (dTest (dOp rNe (dOp rEq (dVar 9) (dLst dNil)) (dOp rEq (dLc false (dAny (dVar 8)) (.nm 12) (dTest (dOp rLt (dOp rIx (dOp rIx (dVar 12) (dC (.int 1))) (dC (.int 0))) (dC (.int 0)))) (dC (.int 1)) [12]) (dLst dNil))))
  (dRet (dC (.bl false)))
  dNext)
  (dIfS (dNot (dTru (dCall PG.sp__law_refuses [] (dCons (dVar 3) dNil))))
  (dRet (dC (.bl false)))
  dNext)))))))))))
  (dRet (dAndV (dCall PG.sp__law_refuses [] (dCons (dLst dNil) dNil)) (dCall PG.sp__law_same [] (dCons (dCall PG.sp_clearances [] (dCons (dLst dNil) (dCons (dLst (dCons (dCall PG.sp__law_ray_2 [] (dCons (dVar 1) dNil)) dNil)) dNil))) (dCons (dLst dNil) dNil)))))))
@[irreducible] def sp_law_33 : FSpec := spOf false 1 13 w_law_33

end PG

set_option maxRecDepth 100000
set_option maxHeartbeats 4000000
namespace PG
open PySem PySem.Spec PyProof.Rows L2 RT
theorem abs_eq (a : Int) : (if a < 0 then -a else a) = (a.natAbs : Int) := by
  split <;> omega
theorem gcd_ok {a b : Int} {st : List Cell} {Q : Vl → List Cell → Prop} (h : Q (.d (.int (Int.gcd a b : Int))) st) : sp_common_divisor [.d (.int a), .d (.int b)] st Q := by
  unfold sp_common_divisor
  refine ⟨rfl, ?_⟩
  refine ⟨fun n m => ∃ x y : Nat, m = ⟨[some (.d (.int a)), some (.d (.int b)), some (.d (.int x)), some (.d (.int y))], st⟩ ∧ n = y ∧ Nat.gcd x y = Int.gcd a b, ⟨b.natAbs, a.natAbs, b.natAbs, ?_, rfl, rfl⟩, ?_⟩
  · rw [← abs_eq a, ← abs_eq b]
    rfl
  · rintro y m ⟨x, _, rfl, rfl, hg⟩
    refine ⟨trivial, ?_⟩
    show if (decide ((0 : Int) < y)) = true then _ else _
    by_cases hy : (0 : Int) < y
    · rw [if_pos (decide_eq_true hy)]
      refine ⟨by omega, ?_⟩
      refine ⟨x % y, Nat.mod_lt _ (by omega), y, x % y, ?_, rfl, ?_⟩
      · rw [Int.natCast_emod, ← Int.fmod_eq_emod_of_nonneg _ (by omega)]
        rfl
      · rw [← hg, Nat.gcd_comm x y, Nat.gcd_rec y x, Nat.gcd_comm]
    · rw [if_neg (by simp; omega)]
      have e : y = 0 := by omega
      subst e
      rw [Nat.gcd_zero_right] at hg
      show Q (.d (.int x)) (st.take st.length)
      rw [List.take_length, hg]
      exact h

theorem tk {st : List Cell} {Q : Vl → List Cell → Prop} {v : Vl} (h : Q v st) : Q v (st.take st.length) := by
  rw [List.take_length]
  exact h
def fr (q : Rat) : Dt := .tup [.int q.num, .int q.den]
def zb (q : Rat) : Nat := max q.num.natAbs.log2 q.den.log2 + 2
theorem lineN {n : Nat} (h : Nat.ble n 1000 = true) : n ≤ sizeLine := Nat.le_trans (Nat.le_of_ble_eq_true h) (by decide)
theorem sign_self (d : Int) : d.sign * d = (d.natAbs : Int) := by
  rcases Int.lt_trichotomy d 0 with h | h | h
  · rw [Int.sign_eq_neg_one_of_neg h]
    omega
  · subst h
    rfl
  · rw [Int.sign_eq_one_of_pos h]
    omega
theorem sgn_div {n g s : Int} (hg : g ≠ 0) (h : g ∣ n) (hs : s = 1 ∨ s = -1) : n.fdiv (s * g) = s * n / g := by
  obtain ⟨k, rfl⟩ := h
  rcases hs with rfl | rfl
  · rw [Int.one_mul, Int.one_mul, Int.mul_fdiv_cancel_left _ hg, Int.mul_ediv_cancel_left _ hg]
  · rw [show g * k = (-1 * g) * (-k) by rw [Int.neg_one_mul, Int.neg_mul_neg], Int.mul_fdiv_cancel_left _ (by omega), show -1 * (-1 * g * -k) = g * (-k) by rw [Int.neg_one_mul, Int.neg_one_mul, Int.neg_mul, Int.neg_neg], Int.mul_ediv_cancel_left _ hg]
theorem fraction_ok {n d : Int} {st : List Cell} {Q : Vl → List Cell → Prop} (hd : d ≠ 0) (h : Q (.d (fr (Rat.divInt n d))) st) : sp_fraction [.d (.int n), .d (.int d)] st Q := by
  unfold sp_fraction
  refine ⟨rfl, ?_⟩
  refine gcd_ok ?_
  have hg : (Int.gcd n d : Int) ≠ 0 := by
    have : Int.gcd n d ≠ 0 := fun e => hd (Int.gcd_eq_zero_iff.mp e).2
    omega
  have hn : (Int.gcd n d : Int) ∣ n := Int.gcd_dvd_left ..
  have hd' : (Int.gcd n d : Int) ∣ d := Int.gcd_dvd_right ..
  have e1 : (Rat.divInt n d).num = d.sign * n / Int.gcd n d := by rw [Rat.num_divInt, Int.gcd_comm]
  have e2 : (((Rat.divInt n d).den : Nat) : Int) = d.sign * d / Int.gcd n d := by
    rw [Rat.den_divInt, if_neg hd, Int.natCast_ediv, Int.gcd_comm, sign_self]
  have fin : ∀ s : Int, (s = 1 ∨ s = -1) → s = d.sign → s * (Int.gcd n d : Int) ≠ 0 ∧ s * (Int.gcd n d : Int) ≠ 0 ∧ Q (.d (.tup [.int (n.fdiv (s * Int.gcd n d)), .int (d.fdiv (s * Int.gcd n d))])) st := fun s hs e => by
    refine ⟨by rcases hs with rfl | rfl <;> omega, by rcases hs with rfl | rfl <;> omega, ?_⟩
    rw [sgn_div hg hn hs, sgn_div hg hd' hs, e, ← e1, ← e2]
    exact h
  refine ⟨trivial, ?_⟩
  show if (decide (d < 0)) = true then _ else _
  by_cases hs : d < 0
  · rw [if_pos (decide_eq_true hs)]
    obtain ⟨a, b, c⟩ := fin (-1) (.inr rfl) (Int.sign_eq_neg_one_of_neg hs).symm
    rw [Int.neg_one_mul] at a b c
    exact ⟨a, b, lineN rfl, tk c⟩
  · rw [if_neg (by simp; omega)]
    obtain ⟨a, b, c⟩ := fin 1 (.inl rfl) (Int.sign_eq_one_of_pos (by omega)).symm
    rw [Int.one_mul] at a b c
    exact ⟨a, b, lineN rfl, tk c⟩

theorem log2_mul_le {a b : Nat} : (a * b).log2 ≤ a.log2 + b.log2 + 1 := by
  by_cases ha : a = 0
  · subst ha
    simp
  by_cases hb : b = 0
  · subst hb
    simp
  have h1 := Nat.lt_log2_self (n := a)
  have h2 := Nat.lt_log2_self (n := b)
  have h3 : a * b < 2 ^ (a.log2 + 1 + (b.log2 + 1)) := by
    rw [Nat.pow_add]
    exact Nat.mul_lt_mul'' h1 h2
  have h4 := (Nat.log2_lt (Nat.mul_ne_zero ha hb)).mpr h3
  omega
theorem log2_mono {a b : Nat} (h : a ≤ b) : a.log2 ≤ b.log2 := by
  by_cases ha : a = 0
  · subst ha
    simp
  have := Nat.lt_log2_self (n := b)
  have h4 := (Nat.log2_lt ha).mpr (Nat.lt_of_le_of_lt h this)
  omega
theorem log2_add_le {a b : Nat} : (a + b).log2 ≤ max a.log2 b.log2 + 1 := by
  have h1 : a + b ≤ 2 * max a b := by omega
  have h2 := log2_mono h1
  have h3 : (2 * max a b).log2 ≤ (max a b).log2 + 1 := by
    by_cases h : max a b = 0
    · rw [h]
      simp
    · rw [Nat.log2_two_mul h]
      exact Nat.le_refl _
  have h4 : (max a b).log2 ≤ max a.log2 b.log2 := by
    by_cases h : a ≤ b
    · rw [Nat.max_eq_right h]
      omega
    · rw [Nat.max_eq_left (by omega)]
      omega
  omega
theorem zb_divInt {n d : Int} (hd : d ≠ 0) : zb (Rat.divInt n d) ≤ max n.natAbs.log2 d.natAbs.log2 + 2 := by
  unfold zb
  have h1 : (Rat.divInt n d).num.natAbs ≤ n.natAbs := by
    rw [Rat.num_divInt]
    have : (d.sign * n / (d.gcd n : Int)).natAbs ≤ (d.sign * n).natAbs := Int.natAbs_ediv_le_natAbs ..
    rw [Int.natAbs_mul] at this
    have hs : d.sign.natAbs = 1 := by
      rcases Int.lt_or_gt_of_ne hd with h | h
      · rw [Int.sign_eq_neg_one_of_neg h]
        rfl
      · rw [Int.sign_eq_one_of_pos h]
        rfl
    rw [hs, Nat.one_mul] at this
    exact this
  have h2 : (Rat.divInt n d).den ≤ d.natAbs := by
    rw [Rat.den_divInt, if_neg hd]
    exact Nat.div_le_self ..
  have := log2_mono h1
  have := log2_mono h2
  omega
theorem zb_num (q : Rat) : q.num.natAbs.log2 + 2 ≤ zb q := by
  unfold zb
  omega
theorem zb_den (q : Rat) : q.den.log2 + 2 ≤ zb q := by
  unfold zb
  omega
theorem zb_add (x y : Rat) : zb (x + y) ≤ zb x + zb y := by
  have h := zb_divInt (n := x.num * y.den + y.num * x.den) (d := ((x.den * y.den : Nat) : Int)) (by
    have := x.den_nz
    have := y.den_nz
    have : x.den * y.den ≠ 0 := Nat.mul_ne_zero (by assumption) (by assumption)
    omega)
  rw [Rat.divInt_ofNat, ← Rat.add_def'] at h
  have hx1 := zb_num x
  have hx2 := zb_den x
  have hy1 := zb_num y
  have hy2 := zb_den y
  have m1 : (x.num * y.den).natAbs.log2 ≤ x.num.natAbs.log2 + y.den.log2 + 1 := by
    rw [Int.natAbs_mul, Int.natAbs_natCast]
    exact log2_mul_le
  have m2 : (y.num * x.den).natAbs.log2 ≤ y.num.natAbs.log2 + x.den.log2 + 1 := by
    rw [Int.natAbs_mul, Int.natAbs_natCast]
    exact log2_mul_le
  have m3 : (x.num * y.den + y.num * x.den).natAbs.log2 ≤ max (x.num * y.den).natAbs.log2 (y.num * x.den).natAbs.log2 + 1 :=
    Nat.le_trans (log2_mono (Int.natAbs_add_le ..)) log2_add_le
  have m4 : (((x.den * y.den : Nat) : Int)).natAbs.log2 ≤ x.den.log2 + y.den.log2 + 1 := by
    rw [Int.natAbs_natCast]
    exact log2_mul_le
  omega
theorem zb_mul (x y : Rat) : zb (x * y) ≤ zb x + zb y := by
  have h := zb_divInt (n := x.num * y.num) (d := ((x.den * y.den : Nat) : Int)) (by
    have := x.den_nz
    have := y.den_nz
    have : x.den * y.den ≠ 0 := Nat.mul_ne_zero (by assumption) (by assumption)
    omega)
  rw [Rat.divInt_ofNat, ← Rat.mul_def'] at h
  have hx1 := zb_num x
  have hx2 := zb_den x
  have hy1 := zb_num y
  have hy2 := zb_den y
  have m1 : (x.num * y.num).natAbs.log2 ≤ x.num.natAbs.log2 + y.num.natAbs.log2 + 1 := by
    rw [Int.natAbs_mul]
    exact log2_mul_le
  have m4 : (((x.den * y.den : Nat) : Int)).natAbs.log2 ≤ x.den.log2 + y.den.log2 + 1 := by
    rw [Int.natAbs_natCast]
    exact log2_mul_le
  omega
theorem zb_neg (x : Rat) : zb (-x) = zb x := by
  unfold zb
  rw [Rat.neg_num, Rat.neg_den, Int.natAbs_neg]
theorem zb_sub (x y : Rat) : zb (x - y) ≤ zb x + zb y := by
  rw [Rat.sub_eq_add_neg, ← zb_neg y]
  exact zb_add x (-y)
def ZM : Nat := 60000000
theorem mulok {i j : Int} (h : i.natAbs.log2 + j.natAbs.log2 < ZM) : MulOk i j := Nat.lt_trans h (by unfold ZM; decide)
section
variable {x y : Rat} {st : List Cell} {Q : Vl → List Cell → Prop}
theorem den_pos (x : Rat) : ((x.den : Nat) : Int) ≠ 0 := by
  have := x.den_nz
  omega
theorem mul_nn (x y : Rat) : ((x.den : Nat) : Int) * ((y.den : Nat) : Int) ≠ 0 := Int.mul_ne_zero (den_pos x) (den_pos y)
theorem mk_nn {i j : Nat} {a b : Int} (ha : a.natAbs.log2 + 2 ≤ i) (hb : b.natAbs.log2 + 2 ≤ j) (h : i + j < ZM) : MulOk a b := mulok (by omega)
theorem dn (x : Rat) : ((x.den : Nat) : Int).natAbs.log2 + 2 ≤ zb x := by
  rw [Int.natAbs_natCast]
  exact zb_den x
theorem add_ok (hz : zb x + zb y < ZM) (h : Q (.d (fr (x + y))) st) : sp_add [.d (fr x), .d (fr y)] st Q := by
  unfold sp_add
  refine ⟨rfl, ?_⟩
  refine ⟨mk_nn (zb_num x) (dn y) hz, mk_nn (zb_num y) (dn x) (by omega), mk_nn (dn x) (dn y) hz, ?_⟩
  refine fraction_ok (mul_nn x y) (tk ?_)
  rw [← Int.natCast_mul, Rat.divInt_ofNat, ← Rat.add_def']
  exact h
theorem negative_ok (h : Q (.d (fr (-x))) st) : sp_negative [.d (fr x)] st Q := by
  unfold sp_negative
  refine ⟨rfl, lineN rfl, tk ?_⟩
  have e : fr (-x) = .tup [.int (-x.num), .int x.den] := by
    unfold fr
    rw [Rat.neg_num, Rat.neg_den]
  rw [e] at h
  exact h
theorem subtract_ok (hz : zb x + zb y < ZM) (h : Q (.d (fr (x - y))) st) : sp_subtract [.d (fr x), .d (fr y)] st Q := by
  unfold sp_subtract
  refine ⟨rfl, ?_⟩
  refine negative_ok ?_
  refine add_ok (by rw [zb_neg]; exact hz) (tk ?_)
  rw [← Rat.sub_eq_add_neg]
  exact h
theorem multiply_ok (hz : zb x + zb y < ZM) (h : Q (.d (fr (x * y))) st) : sp_multiply [.d (fr x), .d (fr y)] st Q := by
  unfold sp_multiply
  refine ⟨rfl, ?_⟩
  refine ⟨mk_nn (zb_num x) (zb_num y) hz, mk_nn (dn x) (dn y) hz, ?_⟩
  refine fraction_ok (mul_nn x y) (tk ?_)
  rw [← Int.natCast_mul, Rat.divInt_ofNat, ← Rat.mul_def']
  exact h
theorem num_nz {y : Rat} (hy : y ≠ 0) : y.num ≠ 0 := fun e => hy (Rat.num_eq_zero.mp e)
theorem divide_ok (hy : y ≠ 0) (hz : zb x + zb y < ZM) (h : Q (.d (fr (x / y))) st) : sp_divide [.d (fr x), .d (fr y)] st Q := by
  unfold sp_divide
  refine ⟨rfl, ?_⟩
  refine ⟨mk_nn (zb_num x) (dn y) hz, mk_nn (dn x) (zb_num y) hz, ?_⟩
  refine fraction_ok (Int.mul_ne_zero (den_pos x) (num_nz hy)) (tk ?_)
  have e : Rat.divInt (x.num * (y.den : Int)) ((x.den : Int) * y.num) = x / y := by
    rw [Rat.div_def]
    have e1 : y⁻¹ = Rat.divInt y.den y.num := by
      have := Rat.inv_divInt y.num y.den
      rw [Rat.num_divInt_den] at this
      exact this
    rw [e1]
    conv => rhs; rw [← Rat.num_divInt_den x]
    rw [Rat.divInt_mul_divInt]
  rw [e]
  exact h
def sgn (x : Rat) : Int := if 0 < x then 1 else if x < 0 then -1 else 0
theorem num_neg_iff (x : Rat) : x.num < 0 ↔ x < 0 := by
  have h := Rat.num_nonneg (q := x)
  rw [← Rat.not_le, ← h]
  omega
theorem num_pos_iff (x : Rat) : 0 < x.num ↔ 0 < x := by
  have h := num_neg_iff (-x)
  rw [Rat.neg_num] at h
  have : (0 < x) ↔ (-x < 0) := by grind
  rw [this, ← h]
  omega
theorem sign_ok (h : Q (.d (.int (sgn x))) st) : sp_sign [.d (fr x)] st Q := by
  unfold sp_sign
  refine ⟨rfl, trivial, ?_⟩
  show if (decide ((0 : Int) < x.num)) = true then _ else _
  unfold sgn at h
  by_cases h1 : 0 < x
  · rw [if_pos (decide_eq_true ((num_pos_iff x).mpr h1))]
    rw [if_pos h1] at h
    exact tk h
  · rw [if_neg (by simp only [decide_eq_true_eq]; exact fun z => h1 ((num_pos_iff x).mp z))]
    rw [if_neg h1] at h
    refine ⟨trivial, ?_⟩
    show if (decide (x.num < 0)) = true then _ else _
    by_cases h2 : x < 0
    · rw [if_pos (decide_eq_true ((num_neg_iff x).mpr h2))]
      rw [if_pos h2] at h
      exact tk h
    · rw [if_neg (by simp only [decide_eq_true_eq]; exact fun z => h2 ((num_neg_iff x).mp z))]
      rw [if_neg h2] at h
      exact tk h
theorem compare_ok (hz : zb x + zb y < ZM) (h : Q (.d (.int (sgn (x - y)))) st) : sp_compare [.d (fr x), .d (fr y)] st Q := by
  unfold sp_compare
  refine ⟨rfl, subtract_ok hz (sign_ok (tk h))⟩
theorem sgn_lt (x y : Rat) : sgn (x - y) < 0 ↔ x < y := by
  unfold sgn
  grind
theorem is_less_ok (hz : zb x + zb y < ZM) (h : Q (.d (.bl (decide (x < y)))) st) : sp_is_less [.d (fr x), .d (fr y)] st Q := by
  unfold sp_is_less
  refine ⟨rfl, compare_ok hz ⟨trivial, tk ?_⟩⟩
  have e : decide (sgn (x - y) < 0) = decide (x < y) := decide_eq_decide.mpr (sgn_lt x y)
  rw [← e] at h
  exact h
end
end PG

set_option maxRecDepth 100000
set_option maxHeartbeats 4000000
namespace PG
open PySem PySem.Spec PyProof.Rows L2 RT

theorem range_inv {i : Nat} {b : DS} {all : List Dt} {E : DEnds} (I : Nat → Int → M → Prop)
    (hs : ∀ n lo m (K : M → Prop), (∀ m', I n (lo + 1) m' → K m') → I (n + 1) lo m → b ⟨K, E.rt, E.nx, K⟩ ⟨m.sl.set i (some (.d (.int lo))), m.st⟩) (hd : ∀ lo m, I 0 lo m → E.nx m) :
    ∀ (n : Nat) (lo : Int) (m : M), I n lo m → dLoop (.nm i) b all none E (rangeD lo n) m
  | 0, lo, m, h => ⟨trivial, hd lo m h⟩
  | n + 1, lo, m, h => ⟨trivial, hs n lo m _ (fun m' h' => range_inv I hs hd n (lo + 1) m' h') h⟩

def eu : Nat → Nat → Nat → Nat
  | 0, x, _ => x
  | j + 1, x, y => if 0 < y then eu j y (x % y) else eu j x y

theorem atI_int {ns : List Int} {k : Int} (h0 : 0 ≤ k) (h1 : k < ns.length) : atI (ns.map Dt.int) k = some (.int (ns.getD k.toNat 0)) := by
  unfold atI ixN
  rw [if_pos h0, List.length_map, if_pos h1]
  show (ns.map Dt.int)[k.toNat]? = _
  have hk : k.toNat < ns.length := by omega
  rw [List.getElem?_map, List.getD_eq_getElem?_getD, List.getElem?_eq_getElem hk]
  rfl
theorem getD_mem {ns : List Int} {k : Nat} (h : k < ns.length) : ns.getD k 0 ∈ ns := by
  rw [List.getD_eq_getElem?_getD, List.getElem?_eq_getElem h]
  exact List.getElem_mem h
theorem ix_ints {ns : List Int} {k : Int} {P : Dt → Prop} (h0 : 0 ≤ k) (h1 : k < ns.length) (h : P (.int (ns.getD k.toNat 0))) : RT.rIx (.lst (ns.map .int)) (.int k) P := onO_mk (atI_int h0 h1) h
def Bits (ns : List Int) : Prop := ∀ z ∈ ns, Builtin.Int.intBits z ≤ 1048576
theorem cell_ok {ns : List Int} {k : Int} {st : List Cell} {Q : Vl → List Cell → Prop} (hb : Bits ns) (h0 : 0 ≤ k) (h : ∀ v : Int, v.natAbs.log2 ≤ 1048576 → Q (.d (.int v)) st) : sp__law_cell [.d (.lst (ns.map .int)), .d (.int k)] st Q := by
  unfold sp__law_cell
  refine ⟨rfl, trivial, ?_⟩
  show if (decide (k < ((ns.map Dt.int).length : Int))) = true then _ else _
  rw [List.length_map]
  by_cases hk : k < (ns.length : Int)
  · rw [if_pos (decide_eq_true hk)]
    refine ix_ints h0 hk (tk (h _ ?_))
    have := hb _ (getD_mem (ns := ns) (k := k.toNat) (by omega))
    unfold Builtin.Int.intBits at this
    split at this
    · rename_i e
      have e' : ns.getD k.toNat 0 = 0 := by simpa using e
      rw [e']
      simp
    · omega
  · rw [if_neg (by simp; omega)]
    exact tk (h 0 (by simp))
def Dg (ds : List Int) : Prop := ∀ d ∈ ds, 0 ≤ d ∧ d < 1000
theorem Dg.app {ds : List Int} (h : Dg ds) {x : Int} (h0 : 0 ≤ x) (h1 : x < 1000) : Dg (ds ++ [x]) := fun d hd => by
  rcases List.mem_append.mp hd with z | z
  · exact h d z
  · rw [List.mem_singleton] at z
    rw [z]
    exact ⟨h0, h1⟩
theorem fmod_bd (a : Int) {n : Int} (h : 0 < n) : 0 ≤ a.fmod n ∧ a.fmod n < n := ⟨Int.fmod_nonneg_of_pos a h, Int.fmod_lt_of_pos a h⟩
theorem map_app (ds : List Int) (x : Int) : ds.map Dt.int ++ [Dt.int x] = (ds ++ [x]).map Dt.int := by simp

theorem getElem_last {α : Type} (l : List α) (x : α) : (l ++ [x])[l.length]? = some x := by simp
theorem set_last {α : Type} (l : List α) (x y : α) : (l ++ [x]).set l.length y = l ++ [y] := by simp

theorem push_st {st : List Cell} {ds : List Int} {x : Int} : (st ++ [Cell.lst (ds.map Dt.int)]).set st.length (Cell.lst (ds.map Dt.int ++ [Dt.int x])) = st ++ [Cell.lst ((ds ++ [x]).map Dt.int)] := by
  rw [set_last, map_app]
theorem k1000 : (1000 : Int) ≠ 0 := by decide
theorem k997 : (997 : Int) ≠ 0 := by decide
theorem kMx : (2147483647 : Int) ≠ 0 := by decide
theorem small_lt {n : Nat} (h : n < 16777216) : n < sizeLine := by
  rw [sizeLine_eq]
  exact h

theorem seq_mid {a b : DS} {E : DEnds} {m : M} (P : M → Prop) (h1 : ∀ K : M → Prop, (∀ m', P m' → K m') → a ⟨K, E.rt, E.bk, E.ct⟩ m) (h2 : ∀ m', P m' → b E m') : dSeq a b E m := h1 _ h2
theorem log2_small {v : Int} {n : Nat} (h0 : 0 ≤ v) (h : v < 2 ^ n) (hn : 0 < n) : v.natAbs.log2 < n := by
  by_cases hz : v.natAbs = 0
  · rw [hz]
    simpa using hn
  · refine (Nat.log2_lt hz).mpr ?_
    have : ((v.natAbs : Nat) : Int) < ((2 ^ n : Nat) : Int) := by
      rw [Int.natAbs_of_nonneg h0]
      push_cast
      exact h
    exact_mod_cast this
end PG

set_option maxRecDepth 100000
set_option maxHeartbeats 4000000
namespace PG
open PySem PySem.Spec PyProof.Rows L2 RT
theorem onJ_mk {o : Option Nat} {P : Nat → Prop} {j : Nat} (e : o = some j) (h : P j) : onJ o P := by
  subst e
  exact h
theorem onV_d {m : M} {x : Dt} {P : Dt → Prop} (h : P x) : onV m (.d x) P := h
theorem rIx_mk {xs : List Dt} {k : Int} {z : Dt} {P : Dt → Prop} (e : atI xs k = some z) (h : P z) : RT.rIx (.lst xs) (.int k) P := onO_mk e h
def Bx (ds : List Int) (i : Nat) : Cell := .lst [.lst (ds.map .int), .int i]
theorem onV_c {sl : List (Option Vl)} {st : List Cell} {k : Nat} {xs : List Dt} {P : Dt → Prop} (e : st[k]? = some (.lst xs)) (h : P (.lst xs)) : onV ⟨sl, st⟩ (.c k) P := by
  unfold onV view
  simp only [e]
  exact h
theorem zb_small {n d : Int} {b : Nat} (hd : 0 < d) (h1 : n.natAbs < 2 ^ b) (h2 : d.natAbs < 2 ^ b) (hb : 0 < b) : zb (Rat.divInt n d) ≤ b + 2 := by
  have h := zb_divInt (n := n) (d := d) (by omega)
  have l : ∀ z : Nat, z < 2 ^ b → z.log2 ≤ b := fun z hz => by
    by_cases e : z = 0
    · rw [e]
      simp
    · have := (Nat.log2_lt e).mpr hz
      omega
  have := l _ h1
  have := l _ h2
  omega
theorem eqD_int {a b : Int} : eqD (.int a) (.int b) = decide (a = b) := by
  show (a == b) = _
  rw [Bool.eq_iff_iff]
  simp
end PG

set_option maxRecDepth 100000
set_option maxHeartbeats 4000000
namespace PG
open PySem PySem.Spec PyProof.Rows L2 RT
section
variable {x y : Rat} {st : List Cell} {Q : Vl → List Cell → Prop}
theorem less_iff (x y : Rat) : x.num * y.den < y.num * x.den ↔ x < y := (Rat.lt_iff x y).symm
theorem less_ok (hz : zb x + zb y < ZM) (h : Q (.d (.bl (decide (x < y)))) st) : sp__law_less [.d (fr x), .d (fr y)] st Q := by
  unfold sp__law_less
  refine ⟨rfl, mk_nn (zb_num x) (dn y) hz, mk_nn (zb_num y) (dn x) (by omega), trivial, tk ?_⟩
  have e : decide (x.num * y.den < y.num * x.den) = decide (x < y) := decide_eq_decide.mpr (less_iff x y)
  rw [← e] at h
  exact h
end
theorem zm {a b : Nat} (h : a + b < 60000000) : a + b < ZM := h

theorem add_val (x y : Rat) : x + y = Rat.divInt (x.num * y.den + y.num * x.den) (x.den * y.den) := by
  rw [← Int.natCast_mul, Rat.divInt_ofNat, ← Rat.add_def']
theorem mul_val (x y : Rat) : x * y = Rat.divInt (x.num * y.num) (x.den * y.den) := by
  rw [← Int.natCast_mul, Rat.divInt_ofNat, ← Rat.mul_def']
theorem guard_st {c : DT} {t b : DS} {E : DEnds} {m : M} (m' : M) (hc : ∀ K : Bool → M → Prop, K false m' → c m K) (h : b E m') : dSeq (dIfS c t dNext) b E m := hc _ h
theorem div_val (x : Rat) {y : Rat} (hy : y ≠ 0) : x / y = Rat.divInt (x.num * y.den) (x.den * y.num) := by
  rw [Rat.div_def]
  have e1 : y⁻¹ = Rat.divInt y.den y.num := by
    have := Rat.inv_divInt y.num y.den
    rw [Rat.num_divInt_den] at this
    exact this
  rw [e1]
  conv => lhs; rw [← Rat.num_divInt_den x]
  rw [Rat.divInt_mul_divInt]
end PG

set_option maxRecDepth 100000
set_option maxHeartbeats 4000000
namespace PG
open PySem PySem.Spec PyProof.Rows L2 RT

mutual
theorem eqv_self : ∀ x : Dt, PyData.eqv (toPy x) (toPy x) = true
  | .non => by simp [toPy, PyData.eqv]
  | .bl b => by simp [toPy, PyData.eqv]
  | .int i => by simp [toPy, PyData.eqv]
  | .str s => by simp [toPy, PyData.eqv]
  | .tup ds => by
    simp only [toPy, PyData.eqv]
    exact eqvs_self ds
  | .lst ds => by
    simp only [toPy, PyData.eqv]
    exact eqvs_self ds
theorem eqvs_self : ∀ ds : List Dt, PyData.eqvAll (toPys ds) (toPys ds) = true
  | [] => by simp [toPys, PyData.eqvAll]
  | d :: ds => by
    simp only [toPys, PyData.eqvAll, eqv_self d, eqvs_self ds, Bool.and_self]
end
theorem eqD_self (x : Dt) : eqD x x = true := eqv_self x
theorem neD_self (x : Dt) : (!eqD x x) = false := by rw [eqD_self]; rfl

mutual
def nb : Dt → Bool
  | .bl _ => false
  | .tup ds => nbs ds
  | .lst ds => nbs ds
  | .non => true
  | .int _ => true
  | .str _ => true
def nbs : List Dt → Bool
  | [] => true
  | d :: ds => nb d && nbs ds
end
mutual
theorem eqv_eq : ∀ x y : Dt, nb x = true → nb y = true → PyData.eqv (toPy x) (toPy y) = true → x = y
  | .bl _, _, h, _, _ => by simp [nb] at h
  | _, .bl _, _, h, _ => by simp [nb] at h
  | .non, .non, _, _, _ => rfl
  | .int i, .int j, _, _, h => by
    simp [toPy, PyData.eqv] at h
    rw [h]
  | .str i, .str j, _, _, h => by
    simp [toPy, PyData.eqv] at h
    rw [h]
  | .tup xs, .tup ys, h1, h2, h => by
    simp only [nb] at h1 h2
    simp only [toPy, PyData.eqv] at h
    rw [eqvs_eq xs ys h1 h2 h]
  | .lst xs, .lst ys, h1, h2, h => by
    simp only [nb] at h1 h2
    simp only [toPy, PyData.eqv] at h
    rw [eqvs_eq xs ys h1 h2 h]
  | .non, .int _, _, _, h | .non, .str _, _, _, h | .non, .tup _, _, _, h | .non, .lst _, _, _, h => by simp [toPy, PyData.eqv] at h
  | .int _, .non, _, _, h | .int _, .str _, _, _, h | .int _, .tup _, _, _, h | .int _, .lst _, _, _, h => by simp [toPy, PyData.eqv] at h
  | .str _, .non, _, _, h | .str _, .int _, _, _, h | .str _, .tup _, _, _, h | .str _, .lst _, _, _, h => by simp [toPy, PyData.eqv] at h
  | .tup _, .non, _, _, h | .tup _, .int _, _, _, h | .tup _, .str _, _, _, h | .tup _, .lst _, _, _, h => by simp [toPy, PyData.eqv] at h
  | .lst _, .non, _, _, h | .lst _, .int _, _, _, h | .lst _, .str _, _, _, h | .lst _, .tup _, _, _, h => by simp [toPy, PyData.eqv] at h
theorem eqvs_eq : ∀ xs ys : List Dt, nbs xs = true → nbs ys = true → PyData.eqvAll (toPys xs) (toPys ys) = true → xs = ys
  | [], [], _, _, _ => rfl
  | [], _ :: _, _, _, h => by simp [toPys, PyData.eqvAll] at h
  | _ :: _, [], _, _, h => by simp [toPys, PyData.eqvAll] at h
  | x :: xs, y :: ys, h1, h2, h => by
    simp only [nbs, Bool.and_eq_true] at h1 h2
    simp only [toPys, PyData.eqvAll, Bool.and_eq_true] at h
    rw [eqv_eq x y h1.1 h2.1 h.1, eqvs_eq xs ys h1.2 h2.2 h.2]
end

def Sh (n : Nat) (d : Dt) : Prop := (toPy d).canLay0 = true ∧ (toPy d).depth ≤ n
theorem sh_ok {n : Nat} {d : Dt} (h : Sh n d) (hn : Nat.ble n 64 = true := by rfl) : shD d := by
  unfold shD SeqAt.shaped
  rw [h.1, decide_eq_true (Nat.le_trans h.2 (Nat.le_of_ble_eq_true hn))]
  rfl
theorem canLays : ∀ {ds : List Dt}, (∀ d ∈ ds, (toPy d).canLay0 = true) → PyData.canLayAll0 (toPys ds) = true
  | [], _ => by simp [toPys, PyData.canLayAll0]
  | d :: ds, h => by
    simp only [toPys, PyData.canLayAll0, h d List.mem_cons_self, canLays fun x hx => h x (List.mem_cons_of_mem _ hx), Bool.and_self]
theorem depths : ∀ {n : Nat} {ds : List Dt}, (∀ d ∈ ds, (toPy d).depth ≤ n) → PyData.depthAll (toPys ds) ≤ n
  | n, [], _ => by simp [toPys, PyData.depthAll]
  | n, d :: ds, h => by
    have h1 := h d List.mem_cons_self
    have h2 := depths (n := n) (ds := ds) fun x hx => h x (List.mem_cons_of_mem _ hx)
    simp only [toPys, PyData.depthAll]
    omega
theorem sh_tup {n : Nat} {ds : List Dt} (h : ∀ d ∈ ds, Sh n d) : Sh (n + 1) (.tup ds) := by
  constructor
  · simp only [toPy, PyData.canLay0]
    exact canLays fun d hd => (h d hd).1
  · simp only [toPy, PyData.depth]
    have := depths (n := n) (ds := ds) fun d hd => (h d hd).2
    omega
theorem sh_lst {n : Nat} {ds : List Dt} (h : ∀ d ∈ ds, Sh n d) : Sh (n + 1) (.lst ds) := by
  constructor
  · simp only [toPy, PyData.canLay0]
    exact canLays fun d hd => (h d hd).1
  · simp only [toPy, PyData.depth]
    have := depths (n := n) (ds := ds) fun d hd => (h d hd).2
    omega
theorem sh_int {i : Int} {n : Nat} : Sh n (.int i) := ⟨rfl, Nat.zero_le _⟩
theorem sh_non {n : Nat} : Sh n .non := ⟨rfl, Nat.zero_le _⟩
theorem sh_str {s : Str} {n : Nat} (h : PyData.canLay0 (.str s) = true) : Sh n (.str s) := ⟨by simp only [toPy]; exact h, by simp [toPy, PyData.depth]⟩
theorem all_nil {P : Dt → Prop} : ∀ d ∈ ([] : List Dt), P d := fun _ h => nomatch h
theorem all_cons {P : Dt → Prop} {x : Dt} {r : List Dt} (h1 : P x) (h2 : ∀ d ∈ r, P d) : ∀ d ∈ x :: r, P d := fun d hd => by
  rcases List.mem_cons.mp hd with e | e
  · rw [e]
    exact h1
  · exact h2 d e
theorem all_map {α : Type} {P : Dt → Prop} {f : α → Dt} {l : List α} (h : ∀ a ∈ l, P (f a)) : ∀ d ∈ l.map f, P d := fun d hd => by
  obtain ⟨a, ha, rfl⟩ := List.mem_map.mp hd
  exact h a ha
theorem sh_fr {q : Rat} : Sh 1 (fr q) := sh_tup (all_cons sh_int (all_cons sh_int all_nil))
def ofr : Option Rat → Dt
  | none => .non
  | some q => fr q
theorem sh_ofr {o : Option Rat} : Sh 1 (ofr o) := by
  cases o with
  | none => exact sh_non
  | some q => exact sh_fr

section
variable {x y : Rat} {st : List Cell} {Q : Vl → List Cell → Prop}
theorem zz (h : zb x + zb y ≤ 200) : zb x + zb y < ZM := zm (by omega)
end
section
variable {ds : List Int} {i k : Nat} {st : List Cell} {Q : Vl → List Cell → Prop}
end
end PG

set_option maxRecDepth 100000
set_option maxHeartbeats 4000000
namespace PG
open PySem PySem.Spec PyProof.Rows L2 RT
theorem each_inv {i : Nat} {b : DS} {all : List Dt} {lk : Option Nat} {E : DEnds} {α : Type} (f : α → Dt) (I : List α → M → Prop) (hlk : ∀ r m, I r m → lockOk lk all m)
    (hs : ∀ x r m (K : M → Prop), (∀ m', I r m' → K m') → I (x :: r) m → b ⟨K, E.rt, E.nx, K⟩ ⟨m.sl.set i (some (.d (f x))), m.st⟩) (hd : ∀ m, I [] m → E.nx m) :
    ∀ (xs : List α) (m : M), I xs m → dLoop (.nm i) b all lk E (xs.map f) m
  | [], m, h => ⟨hlk _ m h, hd m h⟩
  | x :: r, m, h => ⟨hlk _ m h, hs x r m _ (fun m' h' => each_inv f I hlk hs hd r m' h') h⟩

def bstep (lt : Rat → Rat → Prop) [DecidableRel lt] (b : Option Rat) (v : Option Rat) : Option Rat := match v, b with
  | none, b => b
  | some x, none => some x
  | some x, some y => if lt x y then some x else some y
def least (xs : List (Option Rat)) : Option Rat := xs.foldl (bstep fun x y => x < y) none
def greatest (xs : List (Option Rat)) : Option Rat := xs.foldl (bstep fun x y => y < x) none
def Zs (n : Nat) (xs : List (Option Rat)) : Prop := ∀ q, some q ∈ xs → zb q ≤ n
theorem bstep_z {lt : Rat → Rat → Prop} [DecidableRel lt] {n : Nat} {b v : Option Rat} (hb : ∀ q, b = some q → zb q ≤ n) (hv : ∀ q, v = some q → zb q ≤ n) : ∀ q, bstep lt b v = some q → zb q ≤ n := fun q e => by
  cases v with
  | none => exact hb q e
  | some x =>
    cases b with
    | none => exact hv q e
    | some y =>
      unfold bstep at e
      simp only at e
      split at e
      · exact hv q e
      · exact hb q e
section
variable {st : List Cell} {Q : Vl → List Cell → Prop}
theorem best_ok {n : Nat} {xs : List (Option Rat)} (hz : Zs n xs) (hn : n + n < ZM) (h : Q (.d (ofr (least xs))) st) : sp_least_of [.d (.lst (xs.map ofr))] st Q := by
  unfold sp_least_of
  refine ⟨rfl, ?_⟩
  refine each_inv (lk := none) ofr (fun r m => ∃ b z, m = ⟨[some (.d (.lst (xs.map ofr))), some (.d (ofr b)), z], st⟩ ∧ (∀ q, b = some q → zb q ≤ n) ∧ Zs n r ∧ r.foldl (bstep fun x y => x < y) b = least xs) (fun _ _ _ => trivial) ?_ ?_ xs _ ⟨none, none, rfl, (fun q e => nomatch e), hz, rfl⟩
  · rintro x r _ K hK ⟨b, z, rfl, hb, hr, e⟩
    have hx : ∀ q, x = some q → zb q ≤ n := fun q e => hr q (e ▸ List.mem_cons_self)
    have hr' : Zs n r := fun q hq => hr q (List.mem_cons_of_mem _ hq)
    have go : K ⟨[some (.d (.lst (xs.map ofr))), some (.d (ofr (bstep (fun x y => x < y) b x))), some (.d (ofr x))], st⟩ := hK _ ⟨_, _, rfl, bstep_z hb hx, hr', e⟩
    cases x with
    | none => exact go
    | some x =>
      cases b with
      | none => exact go
      | some b =>
        have zx := hx x rfl
        have zb' := hb b rfl
        refine is_less_ok (x := x) (y := b) (Nat.lt_of_le_of_lt (Nat.add_le_add zx zb') hn) ?_
        show if (decide (x < b)) = true then _ else _
        unfold bstep at go
        simp only at go
        by_cases hlt : x < b
        · rw [if_pos (decide_eq_true hlt)]
          rw [if_pos hlt] at go
          exact go
        · rw [if_neg (by simpa using hlt)]
          rw [if_neg hlt] at go
          exact go
  · rintro _ ⟨b, z, rfl, _, _, e⟩
    have e' : b = least xs := e
    rw [← e'] at h
    exact tk h
def nearest (lo hi : Option Rat) : Rat := match lo, hi with
  | some l, some u => if 0 < l then l else if u < 0 then u else 0
  | some l, none => if 0 < l then l else 0
  | none, some u => if u < 0 then u else 0
  | none, none => 0
end
end PG

set_option maxRecDepth 100000
set_option maxHeartbeats 4000000
namespace PG
open PySem PySem.Spec PyProof.Rows L2 RT

def In (D B : Nat) (q : Rat) : Prop := ∃ n : Int, q * (D : Rat) = (n : Rat) ∧ n.natAbs ≤ B * D
theorem in_add {D B C : Nat} {x y : Rat} : In D B x → In D C y → In D (B + C) (x + y) := fun ⟨n, h1, h2⟩ ⟨m, h3, h4⟩ => ⟨n + m, by rw [Rat.add_mul, h1, h3, ← Rat.intCast_add], by
  rw [Nat.add_mul]
  have := Int.natAbs_add_le n m
  omega⟩
theorem in_neg {D B : Nat} {x : Rat} : In D B x → In D B (-x) := fun ⟨n, h1, h2⟩ => ⟨-n, by rw [Rat.neg_mul, h1, Rat.intCast_neg], by rw [Int.natAbs_neg]; exact h2⟩
theorem in_sub {D B C : Nat} {x y : Rat} (h1 : In D B x) (h2 : In D C y) : In D (B + C) (x - y) := by
  rw [Rat.sub_eq_add_neg]
  exact in_add h1 (in_neg h2)
theorem in_mul {D B E C : Nat} {x y : Rat} : In D B x → In E C y → In (D * E) (B * C) (x * y) := fun ⟨n, h1, h2⟩ ⟨m, h3, h4⟩ => ⟨n * m, by
  rw [Rat.intCast_mul, ← h1, ← h3, Rat.natCast_mul]
  grind, by
  rw [Int.natAbs_mul, show B * C * (D * E) = (B * D) * (C * E) by simp only [Nat.mul_assoc, Nat.mul_left_comm, Nat.mul_comm]]
  exact Nat.mul_le_mul h2 h4⟩
theorem in_up {D B k : Nat} {x : Rat} (hk : 0 < k) : In D B x → In (D * k) B x := fun ⟨n, h1, h2⟩ => ⟨n * k, by
  rw [Rat.intCast_mul, ← h1, Rat.natCast_mul]
  simp only [Rat.intCast_natCast]
  grind, by
  rw [Int.natAbs_mul, Int.natAbs_natCast, ← Nat.mul_assoc]
  exact Nat.mul_le_mul_right _ h2⟩
theorem in_le {D B C : Nat} {x : Rat} (h : B ≤ C) : In D B x → In D C x := fun ⟨n, h1, h2⟩ => ⟨n, h1, Nat.le_trans h2 (Nat.mul_le_mul_right _ h)⟩
theorem in_val {D B : Nat} {x : Rat} (hD : 0 < D) : In D B x → ∃ n : Int, x = Rat.divInt n D ∧ n.natAbs ≤ B * D := fun ⟨n, h1, h2⟩ => ⟨n, by
  rw [Rat.divInt_eq_div]
  have : (D : Rat) ≠ 0 := by
    have : D ≠ 0 := by omega
    simpa using this
  simp only [Rat.intCast_natCast]
  rw [← h1]
  grind, h2⟩
theorem in_zb {D B b : Nat} {x : Rat} (hD : 0 < D) (h : In D B x) (h1 : B * D < 2 ^ b) (h2 : D < 2 ^ b) (hb : 0 < b) : zb x ≤ b + 2 := by
  obtain ⟨n, e, hn⟩ := in_val hD h
  rw [e]
  exact zb_small (by omega) (by omega) (by omega) hb
theorem in_div {D B : Nat} {n : Int} {d : Nat} (hd : 0 < d) (hD : ∃ k, D = d * k) (h : n.natAbs ≤ B * d) : In D B (Rat.divInt n d) := by
  obtain ⟨k, rfl⟩ := hD
  refine ⟨n * k, ?_, ?_⟩
  · rw [Rat.divInt_eq_div, Rat.natCast_mul, Rat.intCast_mul]
    simp only [Rat.intCast_natCast]
    have : (d : Rat) ≠ 0 := by
      have : d ≠ 0 := by omega
      simpa using this
    grind
  · rw [Int.natAbs_mul, Int.natAbs_natCast, ← Nat.mul_assoc]
    exact Nat.mul_le_mul_right _ h
end PG

set_option maxRecDepth 100000
set_option maxHeartbeats 4000000
namespace PG
open PySem PySem.Spec PyProof.Rows L2 RT
theorem guard_end {c : DT} {t : DS} {E : DEnds} {m : M} (P : M → Prop) (hc : ∀ K : Bool → M → Prop, (∀ m', P m' → K false m') → c m K) (h : ∀ m', P m' → E.nx m') : dIfS c t dNext E m := hc _ h
theorem ifs_t {c : DT} {t u : DS} {E : DEnds} {m : M} (m' : M) (hc : ∀ K : Bool → M → Prop, K true m' → c m K) (h : t E m') : dIfS c t u E m := hc _ (by rw [if_pos rfl]; exact h)
end PG

set_option maxRecDepth 100000
set_option maxHeartbeats 4000000
namespace PG
open PySem PySem.Spec PyProof.Rows L2 RT
def Pn (q : Rat) : Prop := ∃ (a : Int) (z : Nat), q = Rat.divInt a z ∧ a.natAbs ≤ 6 ∧ 0 < z ∧ z ≤ 4
theorem dvd12 {z : Nat} (h : 0 < z) (h4 : z ≤ 4) : ∃ k, 12 = z * k := by
  have : z = 1 ∨ z = 2 ∨ z = 3 ∨ z = 4 := by omega
  rcases this with rfl | rfl | rfl | rfl
  · exact ⟨12, rfl⟩
  · exact ⟨6, rfl⟩
  · exact ⟨4, rfl⟩
  · exact ⟨3, rfl⟩
theorem Pn.in_ {q : Rat} : Pn q → In 12 6 q := fun ⟨a, z, e, h1, h2, h3⟩ => by
  rw [e]
  exact in_div h2 (dvd12 h2 h3) (Nat.le_trans h1 (Nat.le_mul_of_pos_right _ h2))
theorem Pn.zb {q : Rat} (h : Pn q) : zb q ≤ 9 := in_zb (b := 7) (by decide) h.in_ (by decide) (by decide) (by decide)
theorem dvd60 {z : Nat} (h : 0 < z) (h4 : z ≤ 6) : ∃ k, 60 = z * k := by
  have : z = 1 ∨ z = 2 ∨ z = 3 ∨ z = 4 ∨ z = 5 ∨ z = 6 := by omega
  rcases this with rfl | rfl | rfl | rfl | rfl | rfl
  · exact ⟨60, rfl⟩
  · exact ⟨30, rfl⟩
  · exact ⟨20, rfl⟩
  · exact ⟨15, rfl⟩
  · exact ⟨12, rfl⟩
  · exact ⟨10, rfl⟩
theorem inv_divInt (a z : Int) : (Rat.divInt a z)⁻¹ = Rat.divInt z a := Rat.inv_divInt a z
theorem Pn.inv {q : Rat} (hq : q ≠ 0) : Pn q → In 60 6 q⁻¹ := fun ⟨a, z, e, h1, h2, h3⟩ => by
  subst e
  have ha : a ≠ 0 := fun e => hq (by rw [e, Rat.zero_divInt])
  rw [inv_divInt]
  rcases Int.lt_or_gt_of_ne ha with h | h
  · rw [← Rat.neg_divInt_neg, show -a = ((a.natAbs : Nat) : Int) by omega]
    exact in_div (by omega) (dvd60 (by omega) h1) (by rw [Int.natAbs_neg, Int.natAbs_natCast]; omega)
  · rw [show a = ((a.natAbs : Nat) : Int) by omega]
    exact in_div (by omega) (dvd60 (by omega) h1) (by rw [Int.natAbs_natCast]; omega)
section
variable {ds : List Int} {i k : Nat} {st : List Cell} {Q : Vl → List Cell → Prop}
theorem pn_half : Pn (Rat.divInt 1 2) := ⟨1, 2, rfl, by decide, by decide, by decide⟩
end

inductive El where
  | gap (g : Rat) | lens (p c : Rat) | prism (d : Rat) | afocal (m : Rat) | stop (lo hi : Option Rat)
def elD : El → Dt
  | .gap g => .tup [.str ("gap" : Str), fr g]
  | .lens p c => .tup [.str ("lens" : Str), fr p, fr c]
  | .prism d => .tup [.str ("prism" : Str), fr d]
  | .afocal m => .tup [.str ("afocal" : Str), fr m]
  | .stop lo hi => .tup [.str ("stop" : Str), ofr lo, ofr hi]
def ElIn : El → Prop
  | .gap g => Pn g
  | .lens p c => Pn p ∧ Pn c
  | .prism d => Pn d
  | .afocal m => Pn m ∧ m ≠ 0
  | .stop lo hi => (∀ q, lo = some q → In 12 12 q) ∧ ∀ q, hi = some q → In 12 12 q
theorem pn_zero : Pn 0 := ⟨0, 1, by decide, by decide, by decide, by decide⟩
section
variable {ds : List Int} {i k : Nat} {st : List Cell} {Q : Vl → List Cell → Prop}
theorem idx2 {x y : Rat} (hx : Pn x) (hy : Pn y) (r : Int) (h0 : 0 ≤ r) (h1 : r < 2) : ∃ z : Rat, atI [fr x, fr y] r = some (fr z) ∧ Pn z := by
  have : r = 0 ∨ r = 1 := by omega
  rcases this with rfl | rfl
  · exact ⟨x, rfl, hx⟩
  · exact ⟨y, rfl, hy⟩
end
end PG

set_option maxRecDepth 100000
set_option maxHeartbeats 4000000
namespace PG
open PySem PySem.Spec PyProof.Rows L2 RT
theorem lc_inv {α : Type} (f : α → Dt) {sl slw : List (Option Vl)} {i : Nat} {te : DE} {all : List Dt} {lk : Option Nat} {K : List Dt → M → Prop} (I : List Dt → List α → List Cell → Prop)
    (hlk : ∀ r acc st, I r acc st → lockOk lk all ⟨sl, st⟩)
    (hlen : ∀ x r acc st, I (x :: r) acc st → acc.length < sizeLine)
    (hs : ∀ x r acc st (P : Vl → M → Prop), I (x :: r) acc st → (∀ a m', I r (acc ++ [a]) m'.st → P (.d (f a)) m') → te ⟨slw.set i (some (.d x)), st⟩ P)
    (hd : ∀ acc st, I [] acc st → K (acc.map f) ⟨sl, st⟩) : ∀ (xs : List Dt) (acc : List α) (st : List Cell), I xs acc st → dLcGo sl slw (.nm i) dYes te all lk K xs (acc.map f) st
  | [], acc, st, h => ⟨hlk _ _ _ h, hd acc st h⟩
  | x :: r, acc, st, h => ⟨hlk _ _ _ h, by
    show te ⟨slw.set i (some (.d x)), st⟩ _
    refine hs x r acc st _ h fun a m' h' => ?_
    refine ⟨by rw [List.length_map]; exact hlen x r acc st h, ?_⟩
    have := lc_inv f I hlk hlen hs hd r (acc ++ [a]) m'.st h'
    rw [List.map_append] at this
    exact this⟩
section
variable {ds : List Int} {i k : Nat} {st : List Cell} {Q : Vl → List Cell → Prop}
end

abbrev Ray := Rat × Rat
def rayD (r : Ray) : Dt := .tup [fr r.1, fr r.2]
def behind : El → Ray → Ray
  | .gap g, r => (r.1 + g * r.2, r.2)
  | .lens p c, r => (r.1, r.2 - p * (r.1 - c))
  | .prism d, r => (r.1, r.2 + d)
  | .afocal m, r => (m * r.1, r.2 * m⁻¹)
  | .stop _ _, r => r
def blo : Option Rat → Rat → Bool
  | some l, h => decide (h < l)
  | none, _ => false
def bhi : Option Rat → Rat → Bool
  | some u, h => decide (u < h)
  | none, _ => false
def blocks : El → Ray → Bool
  | .stop lo hi, r => blo lo r.1 || bhi hi r.1
  | _, _ => false
def Rb (j : Nat) (r : Ray) : Prop := In (12 * 60 ^ j) (6 * 13 ^ j) r.1 ∧ In (12 * 60 ^ j) (6 * 13 ^ j) r.2
theorem in_pn {j : Nat} {q : Rat} (h : Pn q) : In (12 * 60 ^ j) (6 * 13 ^ j) q := in_le (Nat.le_mul_of_pos_right _ (Nat.pow_pos (by decide))) (in_up (Nat.pow_pos (by decide)) h.in_)
theorem in_st {j D B : Nat} {q : Rat} (h : In D B q) (hD : ∃ k, 0 < k ∧ 12 * 60 ^ (j + 1) = D * k) (hB : B ≤ 6 * 13 ^ (j + 1)) : In (12 * 60 ^ (j + 1)) (6 * 13 ^ (j + 1)) q := by
  obtain ⟨k, hk, e⟩ := hD
  rw [e]
  exact in_le hB (in_up hk h)
theorem rb_behind {j : Nat} {e : El} {r : Ray} (he : ElIn e) (hr : Rb j r) : Rb (j + 1) (behind e r) := by
  have p13 : 1 ≤ 13 ^ j := Nat.pow_pos (by decide)
  have e13 : 13 ^ (j + 1) = 13 * 13 ^ j := by rw [Nat.pow_succ, Nat.mul_comm]
  have d1 : ∃ k, 0 < k ∧ 12 * 60 ^ (j + 1) = (12 * 60 ^ j) * k := ⟨60, by decide, by rw [Nat.pow_succ]; omega⟩
  have d12 : ∃ k, 0 < k ∧ 12 * 60 ^ (j + 1) = (12 * (12 * 60 ^ j)) * k := ⟨5, by decide, by rw [Nat.pow_succ]; omega⟩
  have d60 : ∃ k, 0 < k ∧ 12 * 60 ^ (j + 1) = ((12 * 60 ^ j) * 60) * k := ⟨1, by decide, by rw [Nat.pow_succ]; omega⟩
  have r1 := in_st (j := j) hr.1 d1 (by omega)
  have r2 := in_st (j := j) hr.2 d1 (by omega)
  have u12 : ∀ {B : Nat} {q : Rat}, In (12 * 60 ^ j) B q → In (12 * (12 * 60 ^ j)) B q := fun h => by
    rw [Nat.mul_comm]
    exact in_up (by decide) h
  cases e with
  | gap g => exact ⟨in_st (j := j) (in_add (u12 hr.1) (in_mul (Pn.in_ he) hr.2)) d12 (by omega), r2⟩
  | lens p c => exact ⟨r1, in_st (j := j) (in_sub (u12 hr.2) (in_mul (Pn.in_ he.1) (in_sub hr.1 (in_pn (j := j) he.2)))) d12 (by omega)⟩
  | prism d => exact ⟨r1, in_st (j := j) (in_add hr.2 (in_pn (j := j) he)) d1 (by omega)⟩
  | afocal m => exact ⟨in_st (j := j) (in_mul (Pn.in_ he.1) hr.1) d12 (by omega), in_st (j := j) (in_mul hr.2 (Pn.inv he.2 he.1)) d60 (by omega)⟩
  | stop lo hi => exact ⟨r1, r2⟩
theorem eqS (a b : Str) : eqD (.str a) (.str b) = decide (a = b) := by
  show (a == b) = _
  rw [Bool.eq_iff_iff]
  simp
theorem shS {s : Str} (h : PyData.canLay0 (.str s) = true) : shD (.str s) := sh_ok (n := 0) (sh_str h)
theorem s_gap : shD (.str ("gap" : Str)) := shS (by decide +kernel)
theorem s_lens : shD (.str ("lens" : Str)) := shS (by decide +kernel)
theorem s_prism : shD (.str ("prism" : Str)) := shS (by decide +kernel)
theorem s_afocal : shD (.str ("afocal" : Str)) := shS (by decide +kernel)
theorem s_stop : shD (.str ("stop" : Str)) := shS (by decide +kernel)
def tag : El → Str
  | .gap _ => "gap" | .lens _ _ => "lens" | .prism _ => "prism" | .afocal _ => "afocal" | .stop _ _ => "stop"
theorem str_ne {a b : Str} {A B : Prop} (h : decide (a = b) = false) (hB : B) : if eqD (.str a) (.str b) = true then A else B := by
  rw [eqS, h]
  exact hB
theorem str_eq {a : Str} {A B : Prop} (hA : A) : if eqD (.str a) (.str a) = true then A else B := by
  rw [eqD_self]
  exact hA
theorem str_nn {a : Str} {A B : Prop} (hB : B) : if (!eqD (.str a) (.str a)) = true then A else B := by
  rw [eqD_self]
  exact hB
theorem str_nt {a b : Str} {A B : Prop} (h : decide (a = b) = false) (hA : A) : if (!eqD (.str a) (.str b)) = true then A else B := by
  rw [eqS, h]
  exact hA
theorem ne_lg : decide (("lens" : Str) = "gap") = false := by decide +kernel
theorem ne_pg : decide (("prism" : Str) = "gap") = false := by decide +kernel
theorem ne_ag : decide (("afocal" : Str) = "gap") = false := by decide +kernel
theorem ne_sg : decide (("stop" : Str) = "gap") = false := by decide +kernel
theorem ne_pl : decide (("prism" : Str) = "lens") = false := by decide +kernel
theorem ne_al : decide (("afocal" : Str) = "lens") = false := by decide +kernel
theorem ne_sl : decide (("stop" : Str) = "lens") = false := by decide +kernel
theorem ne_ap : decide (("afocal" : Str) = "prism") = false := by decide +kernel
theorem ne_sp : decide (("stop" : Str) = "prism") = false := by decide +kernel
theorem ne_sa : decide (("stop" : Str) = "afocal") = false := by decide +kernel
theorem ne_gs : decide (("gap" : Str) = "stop") = false := by decide +kernel
theorem ne_ls : decide (("lens" : Str) = "stop") = false := by decide +kernel
theorem ne_ps : decide (("prism" : Str) = "stop") = false := by decide +kernel
theorem ne_as : decide (("afocal" : Str) = "stop") = false := by decide +kernel
section
variable {st : List Cell} {Q : Vl → List Cell → Prop}
theorem zb_inv {m : Rat} : zb m⁻¹ ≤ zb m := by
  have h : m⁻¹ = Rat.divInt m.den m.num := by
    conv => lhs; rw [← Rat.num_divInt_den m]
    rw [inv_divInt]
  by_cases hm : m = 0
  · rw [hm, Rat.inv_zero]
    exact Nat.le_refl _
  · rw [h]
    have := zb_divInt (n := (m.den : Int)) (num_nz hm)
    rw [Int.natAbs_natCast] at this
    unfold zb at this ⊢
    omega
def Zo (n : Nat) (o : Option Rat) : Prop := ∀ q, o = some q → zb q ≤ n
theorem ElIn.zo {lo hi : Option Rat} (h : ElIn (.stop lo hi)) : Zo 10 lo ∧ Zo 10 hi := ⟨fun q e => in_zb (b := 8) (by decide) (h.1 q e) (by decide) (by decide) (by decide), fun q e => in_zb (b := 8) (by decide) (h.2 q e) (by decide) (by decide) (by decide)⟩
def ElZ (n : Nat) : El → Prop
  | .gap g => zb g ≤ n
  | .lens p c => zb p ≤ n ∧ zb c ≤ n
  | .prism d => zb d ≤ n
  | .afocal m => zb m ≤ n ∧ m ≠ 0
  | .stop lo hi => Zo n lo ∧ Zo n hi
theorem ElIn.z {e : El} (h : ElIn e) : ElZ 10 e := by
  cases e with
  | gap g => exact Nat.le_trans (Pn.zb h) (by decide)
  | lens p c => exact ⟨Nat.le_trans (Pn.zb h.1) (by decide), Nat.le_trans (Pn.zb h.2) (by decide)⟩
  | prism d => exact Nat.le_trans (Pn.zb h) (by decide)
  | afocal m => exact ⟨Nat.le_trans (Pn.zb h.1) (by decide), h.2⟩
  | stop lo hi => exact ElIn.zo h
def oray : Option Ray → Dt
  | none => .non
  | some r => rayD r
end
end PG

set_option maxRecDepth 100000
set_option maxHeartbeats 4000000
namespace PG
open PySem PySem.Spec PyProof.Rows L2 RT
theorem atI_map {α : Type} {f : α → Dt} {xs : List α} {k : Nat} {x : α} (h : xs[k]? = some x) : atI (xs.map f) (k : Int) = some (f x) := by
  have hk : k < xs.length := (List.getElem?_eq_some_iff.mp h).1
  unfold atI ixN
  rw [if_pos (by omega), List.length_map, if_pos (by omega)]
  show (xs.map f)[((k : Int)).toNat]? = _
  rw [Int.toNat_natCast, List.getElem?_map, h]
  rfl
theorem enum_inv {α : Type} {i j : Nat} {f : α → Dt} {b : DS} {all : List Dt} {E : DEnds} (I : Nat → List α → M → Prop)
    (hs : ∀ k x r m (K : M → Prop), (∀ m', I (k + 1) r m' → K m') → I k (x :: r) m → b ⟨K, E.rt, E.nx, K⟩ ⟨(m.sl.set i (some (.d (.int k)))).set j (some (.d (f x))), m.st⟩) (hd : ∀ k m, I k [] m → E.nx m) :
    ∀ (xs : List α) (k : Nat) (m : M), I k xs m → dLoop (.tp [i, j]) b all none E (enumD k (xs.map f)) m
  | [], k, m, h => ⟨trivial, hd k m h⟩
  | x :: r, k, m, h => ⟨trivial, rfl, hs k x r m _ (fun m' h' => enum_inv I hs hd r (k + 1) m' h') h⟩

structure Gr (n : Nat) (es : List El) (r0 : Ray) (R : Nat → Ray → Prop) : Prop where
  st : R 0 r0
  step : ∀ j e r, j < es.length → e ∈ es → R j r → R (j + 1) (behind e r)
  z : ∀ j r, j ≤ es.length → R j r → zb r.1 ≤ n ∧ zb r.2 ≤ n
section
variable {st : List Cell} {Q : Vl → List Cell → Prop} {es : List El} {r0 : Ray} {R : Nat → Ray → Prop} {n : Nat}
end
end PG

set_option maxRecDepth 100000
set_option maxHeartbeats 4000000
namespace PG
open PySem PySem.Spec PyProof.Rows L2 RT
theorem rb0 {r : Ray} (h1 : Pn r.1) (h2 : Pn r.2) : Rb 0 r := ⟨in_pn (j := 0) h1, in_pn (j := 0) h2⟩
end PG

set_option maxRecDepth 100000
set_option maxHeartbeats 4000000
namespace PG
open PySem PySem.Spec PyProof.Rows L2 RT

structure Mp where
  a : Rat
  b : Rat
  c : Rat
  d : Rat
  e : Rat
  f : Rat
def mpD (m : Mp) : Dt := .tup [fr m.a, fr m.b, fr m.c, fr m.d, fr m.e, fr m.f]
def idM : Mp := ⟨1, 0, 0, 1, 0, 0⟩
def appM (m : Mp) (r : Ray) : Ray := (m.a * r.1 + m.b * r.2 + m.e, m.c * r.1 + m.d * r.2 + m.f)
def comp (x y : Mp) : Mp := ⟨y.a * x.a + y.b * x.c, y.a * x.b + y.b * x.d, y.c * x.a + y.d * x.c, y.c * x.b + y.d * x.d, y.a * x.e + y.b * x.f + y.e, y.c * x.e + y.d * x.f + y.f⟩
def elM : El → Mp
  | .gap g => ⟨1, g, 0, 1, 0, 0⟩
  | .lens p c => ⟨1, 0, -p, 1, 0, p * c⟩
  | .prism d => ⟨1, 0, 0, 1, 0, d⟩
  | .afocal m => ⟨m, 0, 0, 1 / m, 0, 0⟩
  | .stop _ _ => idM
def det (m : Mp) : Rat := m.a * m.d - m.b * m.c
def transfer (es : List El) : Mp := es.foldl (fun m e => comp m (elM e)) idM
theorem Mp.ext {x y : Mp} (h1 : x.a = y.a) (h2 : x.b = y.b) (h3 : x.c = y.c) (h4 : x.d = y.d) (h5 : x.e = y.e) (h6 : x.f = y.f) : x = y := by
  cases x
  cases y
  simp_all
theorem comp_id (m : Mp) : comp idM m = m := by
  refine Mp.ext ?_ ?_ ?_ ?_ ?_ ?_ <;> simp [comp, idM] <;> grind
theorem id_comp (m : Mp) : comp m idM = m := by
  refine Mp.ext ?_ ?_ ?_ ?_ ?_ ?_ <;> simp [comp, idM] <;> grind
theorem comp_assoc (x y z : Mp) : comp (comp x y) z = comp x (comp y z) := by
  refine Mp.ext ?_ ?_ ?_ ?_ ?_ ?_ <;> simp only [comp] <;> grind
theorem app_comp (x y : Mp) (r : Ray) : appM (comp x y) r = appM y (appM x r) := by
  refine Prod.ext ?_ ?_ <;> simp only [comp, appM] <;> grind
theorem app_id (r : Ray) : appM idM r = r := by
  refine Prod.ext ?_ ?_ <;> simp only [idM, appM] <;> grind
theorem det_comp (x y : Mp) : det (comp x y) = det x * det y := by
  simp only [det, comp]
  grind
def ElOk : El → Prop
  | .afocal m => m ≠ 0
  | _ => True
theorem ElIn.ok {e : El} (h : ElIn e) : ElOk e := by
  cases e <;> first | trivial | exact h.2
theorem det_el {e : El} (h : ElOk e) : det (elM e) = 1 := by
  cases e with
  | afocal m =>
    have h : m ≠ 0 := h
    simp only [det, elM]
    grind
  | _ => simp only [det, elM, idM] <;> grind
theorem app_el {e : El} {r : Ray} : appM (elM e) r = behind e r := by
  cases e <;> (refine Prod.ext ?_ ?_ <;> simp only [elM, appM, behind, idM] <;> grind)
theorem fold_comp : ∀ (es : List El) (m : Mp), es.foldl (fun m e => comp m (elM e)) m = comp m (transfer es)
  | [], m => by rw [transfer]; simp only [List.foldl_nil]; rw [id_comp]
  | e :: es, m => by
    rw [transfer, List.foldl_cons, List.foldl_cons, fold_comp es, fold_comp es, comp_id, comp_assoc]
theorem transfer_cons (e : El) (es : List El) : transfer (e :: es) = comp (elM e) (transfer es) := by
  rw [transfer, List.foldl_cons, fold_comp, comp_id]
theorem transfer_append (xs ys : List El) : transfer (xs ++ ys) = comp (transfer xs) (transfer ys) := by
  rw [transfer, List.foldl_append, fold_comp]
  rfl
theorem transfer_one (e : El) : transfer [e] = elM e := by
  rw [transfer_cons]
  exact id_comp _
theorem det_transfer : ∀ {es : List El}, (∀ e ∈ es, ElOk e) → det (transfer es) = 1
  | [], _ => by
    show det idM = 1
    simp only [det, idM]
    grind
  | e :: es, h => by
    rw [transfer_cons, det_comp, det_el (h e List.mem_cons_self), det_transfer fun x hx => h x (List.mem_cons_of_mem _ hx)]
    grind

def MZ (n : Nat) (m : Mp) : Prop := (zb m.a ≤ n ∧ zb m.b ≤ n ∧ zb m.c ≤ n) ∧ zb m.d ≤ n ∧ zb m.e ≤ n ∧ zb m.f ≤ n
def MRb (j : Nat) (m : Mp) : Prop := Rb j (m.a, m.c) ∧ Rb j (m.b, m.d) ∧ Rb j (m.e, m.f)
theorem rb_zb2 {j : Nat} {r : Ray} (hr : Rb j r) : zb r.1 ≤ 9 + 10 * j ∧ zb r.2 ≤ 9 + 10 * j := by
  have p : 780 ^ j ≤ 2 ^ (10 * j) := by
    rw [Nat.pow_mul]
    exact Nat.pow_le_pow_left (by decide) j
  have p60 : 60 ^ j ≤ 2 ^ (10 * j) := by
    rw [Nat.pow_mul]
    exact Nat.pow_le_pow_left (by decide) j
  have e : 6 * 13 ^ j * (12 * 60 ^ j) = 72 * 780 ^ j := by
    rw [show (780 : Nat) = 13 * 60 from rfl, Nat.mul_pow, Nat.mul_mul_mul_comm]
  have e2 : 2 ^ (7 + 10 * j) = 128 * 2 ^ (10 * j) := by rw [Nat.pow_add]
  have e3 : 0 < 2 ^ (10 * j) := Nat.pow_pos (by decide)
  have a : 6 * 13 ^ j * (12 * 60 ^ j) < 2 ^ (7 + 10 * j) := by
    rw [e, e2]
    omega
  have b : 12 * 60 ^ j < 2 ^ (7 + 10 * j) := by
    rw [e2]
    omega
  have c : 0 < 12 * 60 ^ j := Nat.mul_pos (by decide) (Nat.pow_pos (by decide))
  have h1 := in_zb (b := 7 + 10 * j) c hr.1 a b (by omega)
  have h2 := in_zb (b := 7 + 10 * j) c hr.2 a b (by omega)
  exact ⟨by omega, by omega⟩
theorem MRb.z {j : Nat} {m : Mp} (h : MRb j m) : MZ (9 + 10 * j) m := by
  obtain ⟨h1, h2, h3⟩ := h
  have a1 := rb_zb2 h1
  have a2 := rb_zb2 h2
  have a3 := rb_zb2 h3
  exact ⟨⟨a1.1, a2.1, a1.2⟩, a2.2, a3.1, a3.2⟩
def lin : El → El
  | .lens p _ => .lens p 0
  | .prism _ => .prism 0
  | e => e
theorem pn_one : Pn 1 := ⟨1, 1, by decide, by decide, by decide, by decide⟩
theorem mrb_id : MRb 0 idM := ⟨rb0 pn_one pn_zero, rb0 pn_zero pn_one, rb0 pn_zero pn_zero⟩
end PG

set_option maxRecDepth 100000
set_option maxHeartbeats 4000000
namespace PG
open PySem PySem.Spec PyProof.Rows L2 RT
section
variable {st : List Cell} {Q : Vl → List Cell → Prop}
theorem seq_to {a b : DS} {E : DEnds} {m : M} (m' : M) (h1 : ∀ K : M → Prop, K m' → a ⟨K, E.rt, E.bk, E.ct⟩ m) (h2 : b E m') : dSeq a b E m := h1 _ h2
theorem weighted_ok {a b c d : Rat} (hz : zb a + zb b + (zb c + zb d) < ZM) (h : Q (.d (fr (a * b + c * d))) st) : sp_weighted [.d (fr a), .d (fr b), .d (fr c), .d (fr d)] st Q := by
  unfold sp_weighted
  have h1 := zb_mul a b
  have h2 := zb_mul c d
  refine ⟨rfl, multiply_ok (by omega) ?_⟩
  refine multiply_ok (by omega) ?_
  exact add_ok (by omega) (tk h)
theorem apply_ok {m : Mp} {r : Ray} {n : Nat} (hm : MZ n m) (h1 : zb r.1 ≤ n) (h2 : zb r.2 ≤ n) (hn : n ≤ 1000000) (h : Q (.d (rayD (appM m r))) st) : sp_apply_map [.d (mpD m), .d (rayD r)] st Q := by
  obtain ⟨⟨ha, hb, hc⟩, hd, he, hf⟩ := hm
  unfold sp_apply_map
  refine ⟨rfl, rfl, ?_⟩
  have z : ∀ {a b c d : Rat}, zb a ≤ n → zb b ≤ n → zb c ≤ n → zb d ≤ n → zb (a * b + c * d) ≤ 4 * n := fun {a b c d} q1 q2 q3 q4 => by
    have h1 := zb_mul a b
    have h2 := zb_mul c d
    have h3 := zb_add (a * b) (c * d)
    omega
  refine weighted_ok (zm (by omega)) ?_
  have := z ha h1 hb h2
  refine add_ok (zm (by omega)) ?_
  refine weighted_ok (zm (by omega)) ?_
  have := z hc h1 hd h2
  refine add_ok (zm (by omega)) ?_
  exact ⟨lineN rfl, tk h⟩
theorem z4 {n : Nat} {a b c d : Rat} (q1 : zb a ≤ n) (q2 : zb b ≤ n) (q3 : zb c ≤ n) (q4 : zb d ≤ n) : zb (a * b + c * d) ≤ 4 * n := by
  have h1 := zb_mul a b
  have h2 := zb_mul c d
  have h3 := zb_add (a * b) (c * d)
  omega
theorem z2 {n : Nat} {a b c d : Rat} (q1 : zb a ≤ n) (q2 : zb b ≤ n) (q3 : zb c ≤ n) (q4 : zb d ≤ n) (hn : n ≤ 1000000) : zb a + zb b + (zb c + zb d) < ZM := zm (by omega)
theorem MZ.le {a b : Nat} {m : Mp} (h : MZ a m) (hab : a ≤ b) : MZ b m := by
  unfold MZ at *
  omega
theorem compose_ok {x y : Mp} {n : Nat} (hx : MZ n x) (hy : MZ n y) (hn : n ≤ 1000000) (h : Q (.d (mpD (comp x y))) st) : sp_compose_maps [.d (mpD x), .d (mpD y)] st Q := by
  obtain ⟨⟨a1, b1, c1⟩, d1, e1, f1⟩ := hx
  obtain ⟨⟨a2, b2, c2⟩, d2, e2, f2⟩ := hy
  unfold sp_compose_maps
  refine ⟨rfl, ?_⟩
  let d : Rat → Option Vl := fun q => some (.d (fr q))
  let S : Option Vl → Option Vl → Option Vl → M := fun u v w => ⟨[some (.d (mpD x)), some (.d (mpD y)), d x.a, d x.b, d x.c, d x.d, d x.e, d x.f, d y.a, d y.b, d y.c, d y.d, d y.e, d y.f, u, v, w], st⟩
  refine seq_to ⟨[some (.d (mpD x)), some (.d (mpD y)), d x.a, d x.b, d x.c, d x.d, d x.e, d x.f, none, none, none, none, none, none, none, none, none], st⟩ (fun K hK => ⟨rfl, hK⟩) ?_
  refine seq_to (S none none none) (fun K hK => ⟨rfl, hK⟩) ?_
  refine seq_to (S (some (.d (.tup [fr (y.a * x.a + y.b * x.c), fr (y.a * x.b + y.b * x.d)]))) none none) (fun K hK => weighted_ok (z2 a2 a1 b2 c1 hn) (weighted_ok (z2 a2 b1 b2 d1 hn) ⟨lineN rfl, hK⟩)) ?_
  refine seq_to (S (some (.d (.tup [fr (y.a * x.a + y.b * x.c), fr (y.a * x.b + y.b * x.d)]))) (some (.d (.tup [fr (y.c * x.a + y.d * x.c), fr (y.c * x.b + y.d * x.d)]))) none) (fun K hK => weighted_ok (z2 c2 a1 d2 c1 hn) (weighted_ok (z2 c2 b1 d2 d1 hn) ⟨lineN rfl, hK⟩)) ?_
  have h1 := z4 a2 e1 b2 f1
  have h2 := z4 c2 e1 d2 f1
  refine seq_to (S (some (.d (.tup [fr (y.a * x.a + y.b * x.c), fr (y.a * x.b + y.b * x.d)]))) (some (.d (.tup [fr (y.c * x.a + y.d * x.c), fr (y.c * x.b + y.d * x.d)]))) (some (.d (.tup [fr (y.a * x.e + y.b * x.f + y.e), fr (y.c * x.e + y.d * x.f + y.f)]))))
    (fun K hK => weighted_ok (z2 a2 e1 b2 f1 hn) (add_ok (zm (by omega)) (weighted_ok (z2 c2 e1 d2 f1 hn) (add_ok (zm (by omega)) ⟨lineN rfl, hK⟩)))) ?_
  exact ⟨lineN rfl, lineN rfl, tk h⟩
theorem elmap_ok {e : El} {n : Nat} (he : ElZ n e) (hn : n ≤ 400000) (h : Q (.d (mpD (elM e))) st) : sp_element_map [.d (elD e)] st Q := by
  unfold sp_element_map
  cases e with
  | gap g => exact ⟨rfl, s_gap, s_gap, str_eq ⟨lineN rfl, tk h⟩⟩
  | lens p c =>
    refine ⟨rfl, s_lens, s_gap, str_ne ne_lg ?_⟩
    refine ⟨s_lens, s_lens, str_eq ?_⟩
    refine negative_ok ?_
    have z1 := he.1
    have z2 := he.2
    refine multiply_ok (zm (by omega)) ?_
    exact ⟨lineN rfl, tk h⟩
  | prism d =>
    refine ⟨rfl, s_prism, s_gap, str_ne ne_pg ?_⟩
    refine ⟨s_prism, s_lens, str_ne ne_pl ?_⟩
    exact ⟨s_prism, s_prism, str_eq ⟨lineN rfl, tk h⟩⟩
  | afocal m =>
    refine ⟨rfl, s_afocal, s_gap, str_ne ne_ag ?_⟩
    refine ⟨s_afocal, s_lens, str_ne ne_al ?_⟩
    refine ⟨s_afocal, s_prism, str_ne ne_ap ?_⟩
    refine ⟨s_afocal, s_afocal, str_eq ?_⟩
    have z1 := he.1
    have o1 : zb 1 ≤ 2 := by decide
    refine divide_ok (x := 1) he.2 (zm (by omega)) ?_
    exact ⟨lineN rfl, tk h⟩
  | stop lo hi =>
    refine ⟨rfl, s_stop, s_gap, str_ne ne_sg ?_⟩
    refine ⟨s_stop, s_lens, str_ne ne_sl ?_⟩
    refine ⟨s_stop, s_prism, str_ne ne_sp ?_⟩
    exact ⟨s_stop, s_afocal, str_ne ne_sa (tk h)⟩
end
end PG

set_option maxRecDepth 100000
set_option maxHeartbeats 4000000
namespace PG
open PySem PySem.Spec PyProof.Rows L2 RT
section
variable {x y : Rat} {st : List Cell} {Q : Vl → List Cell → Prop}
end
end PG

set_option maxRecDepth 100000
set_option maxHeartbeats 4000000
namespace PG
open PySem PySem.Spec PyProof.Rows L2 RT
def Dn (D : Nat) (q : Rat) : Prop := ∃ n : Int, q * (D : Rat) = (n : Rat)
theorem In.dn {D B : Nat} {q : Rat} : In D B q → Dn D q := fun ⟨n, h, _⟩ => ⟨n, h⟩
theorem filt_go {α : Type} {f : α → Dt} {p : α → Bool} {sl slw : List (Option Vl)} {i : Nat} {tt : DT} {all : List Dt} {st : List Cell} {K : List Dt → M → Prop} (hi : i < slw.length)
    (ht : ∀ (a : α) (P : Bool → M → Prop), P (p a) ⟨slw.set i (some (.d (f a))), st⟩ → tt ⟨slw.set i (some (.d (f a))), st⟩ P) :
    ∀ (xs acc : List α), acc.length + xs.length ≤ 100000 → K ((acc ++ xs.filter p).map f) ⟨sl, st⟩ → dLcGo sl slw (.nm i) tt (dVar i) all none K (xs.map f) (acc.map f) st
  | [], acc, _, h => ⟨trivial, by rw [List.filter_nil, List.append_nil] at h; exact h⟩
  | x :: xs, acc, hl, h => by
    rw [List.length_cons] at hl
    refine ⟨trivial, ht x _ ?_⟩
    have hv : (slw.set i (some (.d (f x))))[i]? = some (some (.d (f x))) := by simp [hi]
    cases hp : p x with
    | true =>
      rw [if_pos rfl]
      unfold dVar
      simp only [hv]
      refine ⟨by rw [List.length_map]; exact small_lt (by omega), ?_⟩
      have := filt_go (all := all) (K := K) hi ht xs (acc ++ [x]) (by rw [List.length_append, List.length_singleton]; omega) (by rw [List.append_assoc]; rw [List.filter_cons, if_pos hp] at h; exact h)
      rw [List.map_append] at this
      exact this
    | false =>
      exact filt_go (K := K) hi ht xs acc (by omega) (by rw [List.filter_cons, if_neg (by rw [hp]; decide)] at h; exact h)
section
variable {st : List Cell} {Q : Vl → List Cell → Prop}
end
end PG

set_option maxRecDepth 100000
set_option maxHeartbeats 4000000
namespace PG
open PySem PySem.Spec PyProof.Rows L2 RT
def s3 : Rat := Rat.divInt (-2) 3
structure Dist (A : Mp) (q : Rat) : Prop where
  z : zb q ≤ 300
  den : q.den ≤ 2 ^ 90
  good : A.c * q + A.d = 0 ∨ Pn q
section
variable {A : Mp} {q h0 s : Rat}
theorem mul_lt {a b c d n : Nat} (h1 : a ≤ c) (h2 : b ≤ d) (h : c * d < n) : a * b < n := Nat.lt_of_le_of_lt (Nat.mul_le_mul h1 h2) h
end
end PG

set_option maxRecDepth 100000
set_option maxHeartbeats 4000000
namespace PG
open PySem PySem.Spec PyProof.Rows L2 RT
end PG

set_option maxRecDepth 100000
set_option maxHeartbeats 4000000
namespace PG
open PySem PySem.Spec PyProof.Rows L2 RT
section
variable {x y : Rat} {st : List Cell} {Q : Vl → List Cell → Prop}
theorem lneg_ok (h : Q (.d (fr (-x))) st) : sp__law_neg [.d (fr x)] st Q := by
  unfold sp__law_neg
  refine ⟨rfl, lineN rfl, tk ?_⟩
  have e : fr (-x) = .tup [.int (-x.num), .int x.den] := by
    unfold fr
    rw [Rat.neg_num, Rat.neg_den]
  rw [e] at h
  exact h
theorem same_ok {d : Dt} (hs : shows d) (h : Q (.d (.bl true)) st) : sp__law_same [.d d, .d d] st Q := by
  unfold sp__law_same
  refine ⟨rfl, hs, hs, tk ?_⟩
  have e : decide (reprD d = reprD d) = true := decide_eq_true rfl
  rw [e]
  exact h
end
end PG

set_option maxRecDepth 100000
set_option maxHeartbeats 4000000
namespace PG
open PySem PySem.Spec PyProof.Rows L2 RT
theorem draw2_ok {ds : List Int} {i k : Nat} {n : Int} {st : List Cell} {Q : Vl → List Cell → Prop} (hk : st[k]? = some (Bx ds i)) (hn : 0 < n) (hi3 : i < 1000000) (h : ∀ r : Int, 0 ≤ r → r < n → Q (.d (.int r)) (st.set k (Bx ds (i + 1)))) :
    sp__law_draw_2 [.c k, .d (.int n)] st Q := by
  have hlt : k < st.length := (List.getElem?_eq_some_iff.mp hk).1
  have hs : (st.set k (Bx ds (i + 1)))[k]? = some (Bx ds (i + 1)) := by simp [hlt]
  have hl : (st.set k (Bx ds (i + 1))).length = st.length := List.length_set
  unfold sp__law_draw_2
  refine ⟨rfl, ?_⟩
  refine onV_c hk ?_
  refine onC_mk hk ?_
  refine onJ_mk (j := 1) rfl ?_
  have e0 : ([Dt.lst (ds.map .int), Dt.int i].set 1 (Dt.int (i + 1))) = [Dt.lst (ds.map .int), Dt.int ((i + 1 : Nat) : Int)] := rfl
  dsimp only
  rw [e0]
  change dSeq (dIfS _ _ _) _ _ ⟨_, st.set k (Bx ds (i + 1))⟩
  refine onV_c hs ?_
  refine onV_d (rIx_mk (z := Dt.lst (ds.map .int)) rfl ?_)
  refine ⟨trivial, ?_⟩
  show if (decide ((i : Int) < ((ds.map Dt.int).length : Int))) = true then _ else _
  rw [List.length_map]
  by_cases hi : (i : Int) < (ds.length : Int)
  · rw [if_pos (decide_eq_true hi)]
    refine onV_c hs ?_
    refine onV_d (rIx_mk (z := Dt.lst (ds.map .int)) rfl ?_)
    refine ix_ints (ns := ds) (k := (i : Int)) (by omega) (by omega) ?_
    refine ⟨by show n ≠ 0; omega, ?_⟩
    obtain ⟨b0, b1⟩ := fmod_bd (ds.getD (i : Int).toNat 0) hn
    have := h _ b0 b1
    rw [← hl]
    exact tk this
  · rw [if_neg (by simp; omega)]
    have li := log2_small (v := (i : Int)) (n := 20) (by omega) (by omega) (by decide)
    refine ⟨mulok (by rw [show (7 : Int).natAbs.log2 = 2 by decide]; unfold ZM; omega), ?_⟩
    refine ⟨by show n ≠ 0; omega, ?_⟩
    obtain ⟨b0, b1⟩ := fmod_bd ((i : Int) * 7 + 3) hn
    have := h _ b0 b1
    rw [← hl]
    exact tk this
end PG

set_option maxRecDepth 100000
set_option maxHeartbeats 4000000
namespace PG
open PySem PySem.Spec PyProof.Rows L2 RT
theorem row_ok {v k : Int} {st : List Cell} {Q : Vl → List Cell → Prop} (hv : v.natAbs.log2 ≤ 1048576) (hk0 : 0 ≤ k) (hk1 : k ≤ 100) (h : ∀ ds : List Int, Dg ds → ds.length ≤ 60 → Q (.d (.lst (ds.map .int))) st) :
    sp__law_row [.d (.int v), .d (.int k), .d (.int 12)] st Q := by
  unfold sp__law_row
  refine ⟨rfl, lineN rfl, ?_⟩
  dsimp only
  let S : Int → List Int → Option Vl → Option Vl → M := fun v ds z4 z5 => ⟨[some (.d (.int v)), some (.d (.int k)), some (.d (.int 12)), some (.c st.length), z4, z5], st ++ [.lst (ds.map .int)]⟩
  have ret : ∀ (v : Int) (ds : List Int) (z4 z5 : Option Vl), Dg ds → ds.length ≤ 60 → dRet (dVar 3) (endsOf false st.length Q) (S v ds z4 z5) := fun v ds z4 z5 hd hl => by
    show if st.length < st.length then _ else onC (st ++ [Cell.lst (ds.map Dt.int)]) st.length _
    rw [if_neg (Nat.lt_irrefl _)]
    refine onC_mk (getElem_last _ _) ?_
    rw [if_neg (by decide)]
    show Q (.d (.lst (ds.map .int))) ((st ++ [Cell.lst (ds.map Dt.int)]).take st.length)
    rw [List.take_left]
    exact h ds hd hl
  refine seq_mid (fun m' => ∃ v : Int, m' = S v [] none none ∧ 0 ≤ v ∧ v.natAbs.log2 ≤ 1048580) (fun K' hK' => ?_) ?_
  · refine ⟨trivial, ?_⟩
    show if (decide (v < 0)) = true then _ else _
    by_cases hv0 : v < 0
    · rw [if_pos (decide_eq_true hv0)]
      refine ⟨?_, trivial, hK' _ ⟨1 - 2 * v, rfl, by omega, ?_⟩⟩
      · show (2 : Int).natAbs.log2 + v.natAbs.log2 < 67108864
        have : (2 : Int).natAbs.log2 = 1 := by decide
        omega
      · have e : (1 - 2 * v).natAbs = 1 + 2 * v.natAbs := by omega
        rw [e]
        have h1 := @log2_add_le 1 (2 * v.natAbs)
        have h2 := @log2_mul_le 2 v.natAbs
        have h3 : Nat.log2 2 = 1 := by decide
        have h4 : Nat.log2 1 = 0 := by decide
        omega
    · rw [if_neg (by simp; omega)]
      exact hK' _ ⟨v, rfl, by omega, by omega⟩
  rintro _ ⟨v, rfl, hv0, hvb⟩
  refine ⟨⟨by decide, by decide, by decide⟩, trivial, ?_⟩
  show if (decide ((10 : Int) ^ 18 ≤ v)) = true then _ else _
  by_cases hbig : (10 : Int) ^ 18 ≤ v
  · rw [if_pos (decide_eq_true hbig)]
    refine ⟨⟨by decide, by decide⟩, ?_⟩
    refine range_inv (fun j l m => ∃ (ds' : List Int) (v : Int) (z : Option Vl), m = S v ds' z none ∧ Dg ds' ∧ ds'.length + j ≤ 60) ?_ ?_ 60 0 _ ⟨[], v, none, rfl, (show Dg [] from fun d hd => nomatch hd), Nat.le_refl _⟩
    · rintro j l m K2 hK2 ⟨ds', v, z, rfl, hd', hl2⟩
      refine ⟨trivial, ?_⟩
      show if (decide ((0 : Int) < v)) = true then _ else _
      by_cases hvp : (0 : Int) < v
      · rw [if_pos (decide_eq_true hvp)]
        refine onV_c (getElem_last _ _) ?_
        refine ⟨trivial, ?_⟩
        show if (decide (((ds'.map Dt.int).length : Int) < 12)) = true then _ else _
        by_cases h12 : ((ds'.map Dt.int).length : Int) < 12
        · rw [if_pos (decide_eq_true h12)]
          refine ⟨⟨_, getElem_last _ _⟩, k1000, onC_mk (getElem_last _ _) ⟨small_lt (by rw [List.length_map]; omega), k1000, ?_⟩⟩
          obtain ⟨b0, b1⟩ := fmod_bd v (n := 1000) (by decide)
          refine hK2 _ ⟨ds' ++ [v.fmod 1000], v.fdiv 1000, some (.d (.int l)), ?_, hd'.app b0 b1, by rw [List.length_append, List.length_singleton]; omega⟩
          exact congrArg (M.mk _) push_st
        · rw [if_neg (by simpa using h12)]
          exact hK2 _ ⟨ds', v, some (.d (.int l)), rfl, hd', by omega⟩
      · rw [if_neg (by simp; omega)]
        exact hK2 _ ⟨ds', v, some (.d (.int l)), rfl, hd', by omega⟩
    · rintro l m ⟨ds', v, z, rfl, hd', hl2⟩
      exact ret v ds' z none hd' (by omega)
  · rw [if_neg (by simp; omega)]
    have hv18 : v < 2 ^ 60 := by
      have : (10 : Int) ^ 18 < 2 ^ 60 := by decide
      omega
    have lv := log2_small hv0 hv18 (by decide)
    have llo := log2_small (v := k) (n := 7) hk0 (by omega) (by decide)
    refine ⟨?_, ?_, kMx, ?_⟩
    · show v.natAbs.log2 + (48271 : Int).natAbs.log2 < 67108864
      have : (48271 : Int).natAbs.log2 = 15 := by decide
      omega
    · show k.natAbs.log2 + (69621 : Int).natAbs.log2 < 67108864
      have : (69621 : Int).natAbs.log2 = 16 := by decide
      omega
    refine ⟨⟨by decide, by decide⟩, ?_⟩
    obtain ⟨s0, s1⟩ := fmod_bd (v * 48271 + k * 69621 + 11) (n := 2147483647) (by decide)
    refine range_inv (fun j l m => ∃ (ds' : List Int) (sd : Int) (z : Option Vl), m = S v ds' z (some (.d (.int sd))) ∧ Dg ds' ∧ ds'.length + j ≤ 12 ∧ 0 ≤ sd ∧ sd < 2147483647 ∧ 0 ≤ l ∧ l + j = 12) ?_ ?_ 12 0 _ ⟨[], _, none, rfl, (show Dg [] from fun d hd => nomatch hd), Nat.le_refl _, s0, s1, by decide, by decide⟩
    · rintro j l m K2 hK2 ⟨ds', sd, z, rfl, hd', hl2, c0, c1, l0, l1⟩
      have lsd := log2_small (n := 31) c0 (by omega) (by decide)
      have ll := log2_small (v := l) (n := 4) l0 (by omega) (by decide)
      refine ⟨?_, ?_, kMx, ?_⟩
      · show sd.natAbs.log2 + (16807 : Int).natAbs.log2 < 67108864
        have : (16807 : Int).natAbs.log2 = 14 := by decide
        omega
      · show (7 : Int).natAbs.log2 + l.natAbs.log2 < 67108864
        have : (7 : Int).natAbs.log2 = 2 := by decide
        omega
      obtain ⟨t0, t1⟩ := fmod_bd (sd * 16807 + 7 * l + 1) (n := 2147483647) (by decide)
      refine ⟨⟨_, getElem_last _ _⟩, k997, k1000, onC_mk (getElem_last _ _) ⟨small_lt (by rw [List.length_map]; omega), ?_⟩⟩
      obtain ⟨b0, b1⟩ := fmod_bd (((sd * 16807 + 7 * l + 1).fmod 2147483647).fdiv 997) (n := 1000) (by decide)
      refine hK2 _ ⟨ds' ++ [(((sd * 16807 + 7 * l + 1).fmod 2147483647).fdiv 997).fmod 1000], _, some (.d (.int l)), ?_, hd'.app b0 b1, by rw [List.length_append, List.length_singleton]; omega, t0, t1, by omega, by omega⟩
      exact congrArg (M.mk _) push_st
    · rintro l m ⟨ds', sd, z, rfl, hd', hl2, _⟩
      exact ret v ds' z _ hd' (by omega)
theorem box_ok {ns : List Int} {b : Int} {st : List Cell} {Q : Vl → List Cell → Prop} (hb : Bits ns) (h0 : 0 ≤ b) (h2 : b ≤ 100) (h : ∀ ds : List Int, Dg ds → ds.length ≤ 6000 → Q (.c st.length) (st ++ [Bx ds 0])) :
    sp__law_box [.d (.lst (ns.map .int)), .d (.int 0), .d (.int b)] st Q := by
  unfold sp__law_box
  refine ⟨rfl, lineN rfl, ?_⟩
  refine ⟨⟨⟨by decide, by decide⟩, ⟨by omega, by omega⟩⟩, ?_⟩
  refine range_inv (fun n lo m => ∃ (ds : List Int) (z : Option Vl), m = ⟨[some (.d (.lst (ns.map .int))), some (.d (.int 0)), some (.d (.int b)), some (.d (.lst (ds.map .int))), z], st⟩ ∧ Dg ds ∧ 0 ≤ lo ∧ lo + n = b ∧ ds.length ≤ 60 * lo.toNat) ?_ ?_ (b - 0).toNat 0 _ ⟨[], none, rfl, (show Dg [] from fun d hd => nomatch hd), Int.le_refl _, by omega, Nat.zero_le _⟩
  · rintro n lo m K hK ⟨ds, z, rfl, hd, hlo, hn, hl⟩
    refine cell_ok hb (by omega) fun v hv => ?_
    refine row_ok hv hlo (by omega) fun ds2 hd2 hl2 => ?_
    refine ⟨?_, ?_⟩
    · rw [List.length_map, List.length_map]
      exact Nat.le_of_lt (small_lt (by omega))
    · refine hK _ ⟨ds ++ ds2, some (.d (.int lo)), ?_, fun d hx => (List.mem_append.mp hx).elim (hd d) (hd2 d), by omega, by omega, by rw [List.length_append]; omega⟩
      rw [List.map_append]
      rfl
  · rintro lo m ⟨ds, z, rfl, hd, hlo, hn, hl⟩
    refine ⟨lineN rfl, ?_⟩
    show if st.length < st.length then _ else onC (st ++ [Bx ds 0]) st.length _
    rw [if_neg (Nat.lt_irrefl _)]
    refine onC_mk (getElem_last _ _) ?_
    rw [if_pos rfl]
    show Q (.c st.length) ((st ++ [Bx ds 0]).take st.length ++ [Bx ds 0])
    rw [List.take_left]
    exact h ds hd (by omega)
end PG

set_option maxRecDepth 100000
set_option maxHeartbeats 4000000
namespace PG
open PySem PySem.Spec PyProof.Rows L2 RT
theorem slt {n : Nat} (h : Nat.ble n 1000 = true) : n < sizeLine := small_lt (Nat.lt_of_le_of_lt (Nat.le_of_ble_eq_true h) (by decide))

structure Hp3 where
  p : Int
  q : Int
  r : Int
  deriving DecidableEq
def hpD (h : Hp3) : Dt := .tup [.int h.p, .int h.q, .int h.r]
def HZ (n : Nat) (h : Hp3) : Prop := h.p.natAbs.log2 + 2 ≤ n ∧ h.q.natAbs.log2 + 2 ≤ n ∧ h.r.natAbs.log2 + 2 ≤ n
def valH (h : Hp3) (x : Ray) : Rat := (h.p : Rat) * x.1 + (h.q : Rat) * x.2
def hasH (x : Ray) (h : Hp3) : Bool := decide (valH h x ≤ (h.r : Rat))
theorem zb_int (n : Int) : zb (n : Rat) ≤ n.natAbs.log2 + 2 := by
  unfold zb
  rw [Rat.num_intCast, Rat.den_intCast]
  have : Nat.log2 1 = 0 := by decide
  omega
section
variable {st : List Cell} {Q : Vl → List Cell → Prop}
end

def mkX (p q r : Rat) : Int := p.num * (q.den * r.den)
def mkY (p q r : Rat) : Int := q.num * (p.den * r.den)
def mkZ (p q r : Rat) : Int := r.num * (p.den * q.den)
def mkG (p q r : Rat) : Int := (Int.gcd (Int.gcd (mkX p q r) (mkY p q r) : Int) (mkZ p q r) : Int)
def mkH (p q r : Rat) : Hp3 := ⟨mkX p q r / mkG p q r, mkY p q r / mkG p q r, mkZ p q r / mkG p q r⟩
theorem den_pos' (x : Rat) : (0 : Int) < (x.den : Int) := by
  have := x.den_pos
  omega
theorem denR_pos (x : Rat) : (0 : Rat) < (x.den : Rat) := by
  have := x.den_pos
  exact Rat.natCast_pos.mpr this
theorem num_den (x : Rat) : (x.num : Rat) = x * (x.den : Rat) := by
  have h := denR_pos x
  have e : x = (x.num : Rat) / (x.den : Rat) := by
    conv => lhs; rw [← Rat.num_divInt_den x]
    rw [Rat.divInt_eq_div, Rat.intCast_natCast]
  generalize (x.num : Rat) = a at *
  generalize (x.den : Rat) = b at *
  grind
section
variable {p q r : Rat}
theorem mkG_pos (h : ¬ (p = 0 ∧ q = 0)) : 0 < mkG p q r := by
  unfold mkG
  have : Int.gcd (Int.gcd (mkX p q r) (mkY p q r) : Int) (mkZ p q r) ≠ 0 := fun e => by
    have e1 := (Int.gcd_eq_zero_iff.mp e).1
    have e2 : Int.gcd (mkX p q r) (mkY p q r) = 0 := by omega
    obtain ⟨e3, e4⟩ := Int.gcd_eq_zero_iff.mp e2
    have dp := den_pos' p
    have dq := den_pos' q
    have dr := den_pos' r
    have n1 : (q.den : Int) * r.den ≠ 0 := Int.mul_ne_zero (by omega) (by omega)
    have n2 : (p.den : Int) * r.den ≠ 0 := Int.mul_ne_zero (by omega) (by omega)
    refine h ⟨Rat.num_eq_zero.mp ?_, Rat.num_eq_zero.mp ?_⟩
    · rcases Int.mul_eq_zero.mp e3 with z | z
      · exact z
      · exact (n1 z).elim
    · rcases Int.mul_eq_zero.mp e4 with z | z
      · exact z
      · exact (n2 z).elim
  omega
theorem mk_dvd : mkG p q r ∣ mkX p q r ∧ mkG p q r ∣ mkY p q r ∧ mkG p q r ∣ mkZ p q r := by
  unfold mkG
  have h1 : (Int.gcd (Int.gcd (mkX p q r) (mkY p q r) : Int) (mkZ p q r) : Int) ∣ (Int.gcd (mkX p q r) (mkY p q r) : Int) := Int.gcd_dvd_left ..
  exact ⟨Int.dvd_trans h1 (Int.gcd_dvd_left ..), Int.dvd_trans h1 (Int.gcd_dvd_right ..), Int.gcd_dvd_right ..⟩
theorem ediv_cast {a g : Int} (hg : g ≠ 0) (h : g ∣ a) : ((a / g : Int) : Rat) * (g : Rat) = (a : Rat) := by
  obtain ⟨k, rfl⟩ := h
  rw [Int.mul_ediv_cancel_left _ hg, Rat.intCast_mul]
  grind
theorem mkH_spec (h : ¬ (p = 0 ∧ q = 0)) : ∃ t : Rat, 0 < t ∧ ((mkH p q r).p : Rat) = t * p ∧ ((mkH p q r).q : Rat) = t * q ∧ ((mkH p q r).r : Rat) = t * r := by
  have hg := mkG_pos (r := r) h
  obtain ⟨d1, d2, d3⟩ := mk_dvd (p := p) (q := q) (r := r)
  have hgn : mkG p q r ≠ 0 := by omega
  have c1 := ediv_cast hgn d1
  have c2 := ediv_cast hgn d2
  have c3 := ediv_cast hgn d3
  have hgr : (0 : Rat) < (mkG p q r : Rat) := Rat.intCast_pos.mpr hg
  have dp := denR_pos p
  have dq := denR_pos q
  have dr := denR_pos r
  have x1 : (mkX p q r : Rat) = p * (p.den : Rat) * ((q.den : Rat) * (r.den : Rat)) := by
    unfold mkX
    rw [Rat.intCast_mul, Rat.intCast_mul, num_den p]
    simp only [Rat.intCast_natCast]
  have x2 : (mkY p q r : Rat) = q * (q.den : Rat) * ((p.den : Rat) * (r.den : Rat)) := by
    unfold mkY
    rw [Rat.intCast_mul, Rat.intCast_mul, num_den q]
    simp only [Rat.intCast_natCast]
  have x3 : (mkZ p q r : Rat) = r * (r.den : Rat) * ((p.den : Rat) * (q.den : Rat)) := by
    unfold mkZ
    rw [Rat.intCast_mul, Rat.intCast_mul, num_den r]
    simp only [Rat.intCast_natCast]
  have hs : (0 : Rat) < (p.den : Rat) * (q.den : Rat) * (r.den : Rat) := Rat.mul_pos (Rat.mul_pos dp dq) dr
  refine ⟨(p.den : Rat) * (q.den : Rat) * (r.den : Rat) / (mkG p q r : Rat), ?_, ?_, ?_, ?_⟩
  · rw [Rat.div_def]
    exact Rat.mul_pos hs (Rat.inv_pos.mpr hgr)
  · show ((mkX p q r / mkG p q r : Int) : Rat) = _
    rw [x1] at c1
    generalize (mkG p q r : Rat) = g at *
    grind
  · show ((mkY p q r / mkG p q r : Int) : Rat) = _
    rw [x2] at c2
    generalize (mkG p q r : Rat) = g at *
    grind
  · show ((mkZ p q r / mkG p q r : Int) : Rat) = _
    rw [x3] at c3
    generalize (mkG p q r : Rat) = g at *
    grind
theorem lg3 {a : Int} {b c g : Nat} {s : Int} (h : s = (a * (b * c)) / g) : s.natAbs.log2 ≤ a.natAbs.log2 + b.log2 + c.log2 + 2 := by
  subst h
  have h1 : ((a * (b * c)) / (g : Int)).natAbs ≤ (a * (b * c)).natAbs := Int.natAbs_ediv_le_natAbs ..
  have h2 := log2_mono h1
  rw [Int.natAbs_mul, Int.natAbs_mul, Int.natAbs_natCast, Int.natAbs_natCast] at h2
  have h3 := @log2_mul_le a.natAbs (b * c)
  have h4 := @log2_mul_le b c
  omega
theorem mkH_z {n : Nat} (hn : zb p + zb q + zb r ≤ n) : HZ n (mkH p q r) := by
  have p1 := zb_num p
  have p2 := zb_den p
  have q1 := zb_num q
  have q2 := zb_den q
  have r1 := zb_num r
  have r2 := zb_den r
  refine ⟨?_, ?_, ?_⟩
  · have := lg3 (a := p.num) (b := q.den) (c := r.den) (g := Int.gcd (Int.gcd (mkX p q r) (mkY p q r) : Int) (mkZ p q r)) (s := (mkH p q r).p) rfl
    omega
  · have := lg3 (a := q.num) (b := p.den) (c := r.den) (g := Int.gcd (Int.gcd (mkX p q r) (mkY p q r) : Int) (mkZ p q r)) (s := (mkH p q r).q) rfl
    omega
  · have := lg3 (a := r.num) (b := p.den) (c := q.den) (g := Int.gcd (Int.gcd (mkX p q r) (mkY p q r) : Int) (mkZ p q r)) (s := (mkH p q r).r) rfl
    omega
theorem fdiv_pos {a g : Int} (hg : 0 < g) : a.fdiv g = a / g := by
  rw [Int.fdiv_eq_ediv_of_nonneg _ (by omega)]
end
end PG

set_option maxRecDepth 100000
set_option maxHeartbeats 4000000
namespace PG
open PySem PySem.Spec PyProof.Rows L2 RT
abbrev Ed := Nat × Bool
def edD (e : Ed) : Dt := .tup [.int e.1, .str (if e.2 = true then ("upper" : Str) else ("lower" : Str))]
def ehD (x : Ed × Hp3) : Dt := .tup [edD x.1, hpD x.2]
def lowE (k : Nat) (lo : Option Rat) (m : Mp) : List (Ed × Hp3) := match lo with
  | none => []
  | some l => [((k, false), mkH (-m.a) (-m.b) (m.e - l))]
def uppE (k : Nat) (hi : Option Rat) (m : Mp) : List (Ed × Hp3) := match hi with
  | none => []
  | some u => [((k, true), mkH m.a m.b (u - m.e))]
section
variable {st : List Cell} {Q : Vl → List Cell → Prop}
def edgesAt (k : Nat) (e : El) (m : Mp) : List (Ed × Hp3) := match e with
  | .stop lo hi => lowE k lo m ++ uppE k hi m
  | _ => []
def planesOf : Nat → Mp → List El → List (Ed × Hp3)
  | _, _, [] => []
  | k, m, e :: es => edgesAt k e m ++ planesOf (k + 1) (comp m (elM e)) es
theorem edgesAt_len (k : Nat) (e : El) (m : Mp) : (edgesAt k e m).length ≤ 2 := by
  cases e with
  | stop lo hi =>
    show (lowE k lo m ++ uppE k hi m).length ≤ 2
    rw [List.length_append]
    cases lo <;> cases hi <;> exact Nat.le_of_ble_eq_true rfl
  | _ => exact Nat.zero_le _
theorem nz_of_det {m : Mp} (h : det m = 1) : ¬ (m.a = 0 ∧ m.b = 0) := fun ⟨h1, h2⟩ => by
  unfold det at h
  rw [h1, h2] at h
  grind
end

theorem mkH_has {p q r : Rat} (h : ¬ (p = 0 ∧ q = 0)) (x : Ray) : hasH x (mkH p q r) = decide (p * x.1 + q * x.2 ≤ r) := by
  obtain ⟨t, ht, h1, h2, h3⟩ := mkH_spec (r := r) h
  unfold hasH valH
  rw [h1, h2, h3]
  refine decide_eq_decide.mpr ?_
  have e : t * p * x.1 + t * q * x.2 = t * (p * x.1 + q * x.2) := by grind
  rw [e]
  generalize p * x.1 + q * x.2 = v
  constructor
  · intro h
    exact Rat.le_of_mul_le_mul_left h ht
  · intro h
    exact Rat.mul_le_mul_of_nonneg_left h (Rat.le_of_lt ht)
end PG

set_option maxRecDepth 100000
set_option maxHeartbeats 4000000
namespace PG
open PySem PySem.Spec PyProof.Rows L2 RT
theorem lc_map {α : Type} (f h : α → Dt) {sl slw : List (Option Vl)} {g : Tgt} {te : DE} {all : List Dt} {K : List Dt → M → Prop} {st : List Cell} :
    ∀ {xs done : List α}, (∀ x ∈ xs, ∀ (C : Vl → M → Prop), (∀ sl', C (.d (h x)) ⟨sl', st⟩) → tgD g (.d (f x)) ⟨slw, st⟩ fun m1 => te m1 C) → done.length + xs.length ≤ 1000000 → K ((done ++ xs).map h) ⟨sl, st⟩ → dLcGo sl slw g dYes te all none K (xs.map f) (done.map h) st
  | [], done, _, _, hK => ⟨trivial, by rw [List.append_nil] at hK; exact hK⟩
  | x :: r, done, hs, hl, hK => ⟨trivial, hs x List.mem_cons_self _ fun sl' => by
    rw [List.length_cons] at hl
    refine ⟨by rw [List.length_map]; exact small_lt (by omega), ?_⟩
    have := lc_map f h (K := K) (all := all) (te := te) (g := g) (sl := sl) (slw := slw) (st := st) (xs := r) (done := done ++ [x]) (fun y hy => hs y (List.mem_cons_of_mem _ hy)) (by rw [List.length_append, List.length_singleton]; omega) (by rw [List.append_assoc]; exact hK)
    rw [List.map_append] at this
    exact this⟩
theorem dlc_map {α : Type} (f h : α → Dt) {xs : List α} {m : M} {g : Tgt} {t te : DE} {vs : List Nat} {Q : Vl → M → Prop} (ht : ∀ K : Vl → M → Prop, K (.d (.lst (xs.map f))) m → t m K)
    (hs : ∀ x ∈ xs, ∀ (C : Vl → M → Prop), (∀ sl', C (.d (h x)) ⟨sl', m.st⟩) → tgD g (.d (f x)) ⟨wipeD m.sl vs, m.st⟩ fun m1 => te m1 C) (hl : xs.length ≤ 1000000) (hK : Q (.d (.lst (xs.map h))) m) : dLc false (dAny t) g dYes te vs m Q :=
  ht _ (lc_map f h (done := []) hs (by simpa using hl) hK)
theorem append_st {i k : Nat} {te : DE} {E : DEnds} {m : M} {xs : List Dt} (d : Dt) (hv : m.sl[i]? = some (some (.c k))) (hc : m.st[k]? = some (.lst xs)) (ht : ∀ C : Vl → M → Prop, C (.d d) m → te m C) (hl : xs.length < sizeLine)
    (h : E.nx ⟨m.sl, m.st.set k (.lst (xs ++ [d]))⟩) : dDo (dMeth mAppend (dVar i) (dCons te dNil)) E m := by
  unfold dDo dMeth dVar
  rw [hv]
  refine ⟨⟨_, hc⟩, ht _ ?_⟩
  show onC m.st k _
  exact onC_mk hc ⟨hl, h⟩
theorem cut_take (xs : List Dt) (j : Nat) (hj : j ≤ xs.length) : RT.cutD xs none (some (j : Int)) = xs.take j := by
  unfold RT.cutD
  rw [HT.sIx_none, HT.sIx_nat, Nat.min_eq_left hj, List.drop_zero, Nat.sub_zero]
end PG

set_option maxRecDepth 100000
set_option maxHeartbeats 4000000
namespace PG
open PySem PySem.Spec PyProof.Rows L2 RT

def Rg (hs : List Hp3) (x : Ray) : Prop := ∀ g ∈ hs, valH g x ≤ (g.r : Rat)
def Dir (g : Hp3) : Prop := ¬ (g.p = 0 ∧ g.q = 0)
def dt (g k : Hp3) : Int := g.p * k.q - g.q * k.p
def dotI (g k : Hp3) : Int := g.p * k.p + g.q * k.q
def lin2 (p q : Rat) (x : Ray) : Rat := p * x.1 + q * x.2
theorem exists_max {α : Type} (P : α → Prop) [DecidablePred P] (f : α → Rat) : ∀ l : List α, (∀ x ∈ l, ¬ P x) ∨ ∃ m ∈ l, P m ∧ ∀ x ∈ l, P x → f x ≤ f m
  | [] => .inl fun _ h => nomatch h
  | a :: l => by
    rcases exists_max P f l with h | ⟨m, hm, pm, h⟩
    · by_cases pa : P a
      · refine .inr ⟨a, List.mem_cons_self, pa, fun x hx px => ?_⟩
        rcases List.mem_cons.mp hx with e | e
        · rw [e]; exact Rat.le_refl
        · exact (h x e px).elim
      · refine .inl fun x hx px => ?_
        rcases List.mem_cons.mp hx with e | e
        · rw [e] at px; exact pa px
        · exact h x e px
    · by_cases pa : P a ∧ f m ≤ f a
      · refine .inr ⟨a, List.mem_cons_self, pa.1, fun x hx px => ?_⟩
        rcases List.mem_cons.mp hx with e | e
        · rw [e]; exact Rat.le_refl
        · exact Rat.le_trans (h x e px) pa.2
      · refine .inr ⟨m, List.mem_cons_of_mem _ hm, pm, fun x hx px => ?_⟩
        rcases List.mem_cons.mp hx with e | e
        · rw [e] at px ⊢
          rcases Rat.le_total (a := f m) (b := f a) with z | z
          · exact (pa ⟨px, z⟩).elim
          · exact z
        · exact h x e px
theorem exists_min {α : Type} (P : α → Prop) [DecidablePred P] (f : α → Rat) (l : List α) : (∀ x ∈ l, ¬ P x) ∨ ∃ m ∈ l, P m ∧ ∀ x ∈ l, P x → f m ≤ f x := by
  rcases exists_max P (fun x => - f x) l with h | ⟨m, hm, pm, h⟩
  · exact .inl h
  · exact .inr ⟨m, hm, pm, fun x hx px => by have := h x hx px; grind⟩
theorem elim1 (l : List (Rat × Rat)) (h0 : ∀ c ∈ l, c.1 = 0 → 0 ≤ c.2) (h2 : ∀ c ∈ l, ∀ d ∈ l, 0 < c.1 → d.1 < 0 → 0 ≤ c.2 * (-d.1) + d.2 * c.1) : ∃ v : Rat, ∀ c ∈ l, c.1 * v ≤ c.2 := by
  rcases exists_max (fun c : Rat × Rat => c.1 < 0) (fun c => c.2 / c.1) l with hn | ⟨m, hm, pm, hmax⟩
  · rcases exists_min (fun c : Rat × Rat => 0 < c.1) (fun c => c.2 / c.1) l with hp | ⟨k, hk, pk, hmin⟩
    · refine ⟨0, fun c hc => ?_⟩
      have e : c.1 = 0 := by
        have a := hn c hc
        have b := hp c hc
        grind
      rw [e]
      have := h0 c hc e
      grind
    · refine ⟨k.2 / k.1, fun c hc => ?_⟩
      by_cases e : c.1 = 0
      · rw [e]
        have := h0 c hc e
        grind
      · have p : 0 < c.1 := by
          have a := hn c hc
          grind
        have := hmin c hc p
        have q : c.1 * (k.2 / k.1) ≤ c.1 * (c.2 / c.1) := Rat.mul_le_mul_of_nonneg_left this (Rat.le_of_lt p)
        have : c.1 * (c.2 / c.1) = c.2 := by grind
        grind
  · refine ⟨m.2 / m.1, fun c hc => ?_⟩
    by_cases e : c.1 = 0
    · rw [e]
      have := h0 c hc e
      grind
    · by_cases p : 0 < c.1
      · have w := h2 c hc m hm p pm
        have e1 : m.2 = m.1 * (m.2 / m.1) := by grind
        generalize m.2 / m.1 = v at *
        rw [e1] at w
        -- 0 ≤ (-m.1) * (c.2 - c.1 * v)
        have w2 : 0 ≤ (-m.1) * (c.2 - c.1 * v) := by grind
        have w3 : (-m.1) * 0 ≤ (-m.1) * (c.2 - c.1 * v) := by grind
        have := Rat.le_of_mul_le_mul_left w3 (by grind)
        grind
      · have n : c.1 < 0 := by grind
        have w := hmax c hc n
        have q : (-c.1) * (c.2 / c.1) ≤ (-c.1) * (m.2 / m.1) := Rat.mul_le_mul_of_nonneg_left w (by grind)
        have : c.1 * (c.2 / c.1) = c.2 := by grind
        grind

def sglB (p q : Rat) (g : Hp3) : Option Rat := if (g.p : Rat) * q - (g.q : Rat) * p = 0 ∧ 0 < (g.p : Rat) * p + (g.q : Rat) * q then some (((g.p : Rat) * p + (g.q : Rat) * q) / (dotI g g : Rat) * (g.r : Rat)) else none
def prW (p q : Rat) (g k : Hp3) : Option (Rat × Rat) := if dt g k = 0 then none else
  if (p * (k.q : Rat) - q * (k.p : Rat)) / (dt g k : Rat) ≤ 0 ∨ (q * (g.p : Rat) - p * (g.q : Rat)) / (dt g k : Rat) ≤ 0 then none
  else some ((p * (k.q : Rat) - q * (k.p : Rat)) / (dt g k : Rat), (q * (g.p : Rat) - p * (g.q : Rat)) / (dt g k : Rat))
def prB (p q : Rat) (g k : Hp3) : Option Rat := (prW p q g k).map fun w => w.1 * (g.r : Rat) + w.2 * (k.r : Rat)
def prs (p q : Rat) : List Hp3 → List (Option Rat)
  | [] => []
  | g :: r => r.map (prB p q g) ++ prs p q r
def bounds (p q : Rat) (hs : List Hp3) : List (Option Rat) := hs.map (sglB p q) ++ prs p q hs
theorem prs_mem {p q : Rat} {g k : Hp3} (hne : g ≠ k) : ∀ {hs : List Hp3}, g ∈ hs → k ∈ hs → prB p q g k ∈ prs p q hs ∨ prB p q k g ∈ prs p q hs
  | a :: r, hg, hk => by
    rcases List.mem_cons.mp hg with eg | hg <;> rcases List.mem_cons.mp hk with ek | hk
    · exact (hne (eg.trans ek.symm)).elim
    · exact .inl (List.mem_append_left _ (List.mem_map.mpr ⟨k, hk, by rw [eg]⟩))
    · exact .inr (List.mem_append_left _ (List.mem_map.mpr ⟨g, hg, by rw [ek]⟩))
    · rcases prs_mem hne hg hk with h | h
      · exact .inl (List.mem_append_right _ h)
      · exact .inr (List.mem_append_right _ h)
theorem mem_prs {p q : Rat} {o : Option Rat} : ∀ {hs : List Hp3}, o ∈ prs p q hs → ∃ g ∈ hs, ∃ k ∈ hs, o = prB p q g k
  | a :: r, h => by
    rcases List.mem_append.mp (show o ∈ r.map (prB p q a) ++ prs p q r from h) with h | h
    · obtain ⟨k, hk, rfl⟩ := List.mem_map.mp h
      exact ⟨a, List.mem_cons_self, k, List.mem_cons_of_mem _ hk, rfl⟩
    · obtain ⟨g, hg, k, hk, e⟩ := mem_prs h
      exact ⟨g, List.mem_cons_of_mem _ hg, k, List.mem_cons_of_mem _ hk, e⟩
theorem castI {a b : Int} : ((a * b : Int) : Rat) = (a : Rat) * (b : Rat) := Rat.intCast_mul ..
theorem dt_cast (g k : Hp3) : (dt g k : Rat) = (g.p : Rat) * (k.q : Rat) - (g.q : Rat) * (k.p : Rat) := by
  unfold dt
  rw [Rat.intCast_sub, castI, castI]
theorem dot_cast (g k : Hp3) : (dotI g k : Rat) = (g.p : Rat) * (k.p : Rat) + (g.q : Rat) * (k.q : Rat) := by
  unfold dotI
  rw [Rat.intCast_add, castI, castI]
theorem sq_pos {a : Rat} (h : a ≠ 0) : 0 < a * a := by
  rcases Rat.le_total (a := 0) (b := a) with z | z
  · have : 0 < a := by grind
    exact Rat.mul_pos this this
  · have : 0 < -a := by grind
    have := Rat.mul_pos this this
    grind
theorem sq_nn (a : Rat) : 0 ≤ a * a := by
  by_cases h : a = 0
  · rw [h]; grind
  · exact Rat.le_of_lt (sq_pos h)
theorem n2_pos {p q : Rat} (h : ¬ (p = 0 ∧ q = 0)) : 0 < p * p + q * q := by
  have a := sq_nn p
  have b := sq_nn q
  by_cases hp : p = 0
  · have hq : q ≠ 0 := fun e => h ⟨hp, e⟩
    have := sq_pos hq
    grind
  · have := sq_pos hp
    grind
theorem Dir.rat {g : Hp3} (h : Dir g) : ¬ ((g.p : Rat) = 0 ∧ (g.q : Rat) = 0) := fun ⟨a, b⟩ => h ⟨Rat.intCast_eq_zero_iff.mp a, Rat.intCast_eq_zero_iff.mp b⟩
theorem Dir.pos {g : Hp3} (h : Dir g) : (0 : Rat) < (dotI g g : Rat) := by
  rw [dot_cast]
  exact n2_pos h.rat
theorem mul_le {a b c : Rat} (h : b ≤ c) (ha : 0 ≤ a) : a * b ≤ a * c := Rat.mul_le_mul_of_nonneg_left h ha
theorem of_mul_le {a b c : Rat} (h : a * b ≤ a * c) (ha : 0 < a) : b ≤ c := Rat.le_of_mul_le_mul_left h ha
end PG

set_option maxRecDepth 100000
set_option maxHeartbeats 4000000
namespace PG
open PySem PySem.Spec PyProof.Rows L2 RT
theorem prW_some {p q : Rat} {g k : Hp3} {w : Rat × Rat} (h : prW p q g k = some w) : dt g k ≠ 0 ∧ 0 < w.1 ∧ 0 < w.2 ∧ w.1 * (g.p : Rat) + w.2 * (k.p : Rat) = p ∧ w.1 * (g.q : Rat) + w.2 * (k.q : Rat) = q := by
  unfold prW at h
  by_cases h0 : dt g k = 0
  · rw [if_pos h0] at h
    cases h
  · rw [if_neg h0] at h
    split at h
    · cases h
    · rename_i hn
      cases h
      have hd : (dt g k : Rat) ≠ 0 := fun e => h0 (Rat.intCast_eq_zero_iff.mp e)
      have e := dt_cast g k
      generalize (dt g k : Rat) = d at *
      refine ⟨h0, by grind, by grind, ?_, ?_⟩
      · show (p * (k.q : Rat) - q * (k.p : Rat)) / d * (g.p : Rat) + (q * (g.p : Rat) - p * (g.q : Rat)) / d * (k.p : Rat) = p
        grind
      · show (p * (k.q : Rat) - q * (k.p : Rat)) / d * (g.q : Rat) + (q * (g.p : Rat) - p * (g.q : Rat)) / d * (k.q : Rat) = q
        grind
theorem bound_ok {p q : Rat} {hs : List Hp3} (hd : ∀ g ∈ hs, Dir g) {x : Ray} (hx : Rg hs x) {b : Rat} (hb : some b ∈ bounds p q hs) : lin2 p q x ≤ b := by
  rcases List.mem_append.mp hb with h | h
  · obtain ⟨g, hg, e⟩ := List.mem_map.mp h
    unfold sglB at e
    split at e
    · rename_i hc
      cases e
      have hp := (hd g hg).pos
      have e := dot_cast g g
      have hx' := hx g hg
      unfold valH at hx'
      unfold lin2
      generalize (dotI g g : Rat) = d at *
      generalize (g.p : Rat) = gp at *
      generalize (g.q : Rat) = gq at *
      generalize (g.r : Rat) = gr at *
      -- p = t gp, q = t gq with t = along / d
      have t0 : 0 < (gp * p + gq * q) / d := by
        rw [Rat.div_def]
        exact Rat.mul_pos hc.2 (Rat.inv_pos.mpr hp)
      have e1 : (gp * p + gq * q) / d * gp = p := by grind
      have e2 : (gp * p + gq * q) / d * gq = q := by grind
      generalize (gp * p + gq * q) / d = t at *
      have := mul_le hx' (Rat.le_of_lt t0)
      have e3 : p * x.1 + q * x.2 = t * (gp * x.1 + gq * x.2) := by
        rw [← e1, ← e2]
        grind
      rw [e3]
      exact this
    · cases e
  · obtain ⟨g, hg, k, hk, e⟩ := mem_prs h
    unfold prB at e
    cases hw : prW p q g k with
    | none =>
      rw [hw] at e
      cases e
    | some w =>
      rw [hw] at e
      obtain ⟨_, w1, w2, e1, e2⟩ := prW_some hw
      have e' : b = w.1 * (g.r : Rat) + w.2 * (k.r : Rat) := Option.some.inj e
      rw [e']
      have a1 := mul_le (hx g hg) (Rat.le_of_lt w1)
      have a2 := mul_le (hx k hk) (Rat.le_of_lt w2)
      unfold valH at a1 a2
      unfold lin2
      rw [← e1, ← e2]
      grind
theorem reach {p q : Rat} (hpq : ¬ (p = 0 ∧ q = 0)) {hs : List Hp3} (hd : ∀ g ∈ hs, Dir g) {x0 : Ray} (hx : Rg hs x0) {m : Rat} (h1 : lin2 p q x0 ≤ m) (h2 : ∀ b, some b ∈ bounds p q hs → m ≤ b) : ∃ x, Rg hs x ∧ lin2 p q x = m := by
  have hn := n2_pos hpq
  obtain ⟨n2, en⟩ : ∃ n2, p * p + q * q = n2 := ⟨_, rfl⟩
  rw [en] at hn
  -- what a half-plane asks of the second coordinate
  have key : ∃ v : Rat, ∀ c ∈ hs.map (fun g : Hp3 => (((g.q : Rat) * p - (g.p : Rat) * q, (g.r : Rat) * n2 - ((g.p : Rat) * p + (g.q : Rat) * q) * m) : Rat × Rat)), c.1 * v ≤ c.2 := by
    refine elim1 _ (fun c hc e => ?_) fun c hc d hd' pc nd => ?_
    · obtain ⟨g, hg, rfl⟩ := List.mem_map.mp hc
      dsimp only at e ⊢
      have hxg := hx g hg
      have hdg := (hd g hg).rat
      have hpos := (hd g hg).pos
      have hb : 0 < (g.p : Rat) * p + (g.q : Rat) * q → m ≤ ((g.p : Rat) * p + (g.q : Rat) * q) / (dotI g g : Rat) * (g.r : Rat) := fun ha => by
        refine h2 _ (List.mem_append_left _ (List.mem_map.mpr ⟨g, hg, ?_⟩))
        unfold sglB
        rw [if_pos ⟨by grind, ha⟩]
      have ed := dot_cast g g
      unfold valH at hxg
      unfold lin2 at h1
      generalize (dotI g g : Rat) = d at *
      generalize (g.p : Rat) = gp at *
      generalize (g.q : Rat) = gq at *
      generalize (g.r : Rat) = gr at *
      obtain ⟨A, eA⟩ : ∃ A, gp * p + gq * q = A := ⟨_, rfl⟩
      rw [eA] at hb ⊢
      have id : A * A = d * n2 := by grind
      have nA : A ≠ 0 := fun z => by
        have := Rat.mul_pos hpos hn
        rw [← id, z] at this
        grind
      by_cases pA : 0 < A
      · have := mul_le (hb pA) (Rat.le_of_lt pA)
        have e3 : A * (A / d * gr) = gr * n2 := by
          have : A * (A / d * gr) = (A * A) / d * gr := by grind
          rw [this, id]
          grind
        rw [e3] at this
        grind
      · have nA' : 0 ≤ -A := by grind
        have a1 := mul_le h1 nA'
        -- A u0 = n2 (g x0) as the other coordinate vanishes
        have e4 : A * (p * x0.1 + q * x0.2) = n2 * (gp * x0.1 + gq * x0.2) := by grind
        have a2 := mul_le hxg (Rat.le_of_lt hn)
        grind
    · obtain ⟨g, hg, rfl⟩ := List.mem_map.mp hc
      obtain ⟨k, hk, rfl⟩ := List.mem_map.mp hd'
      dsimp only at pc nd ⊢
      have hxg := hx g hg
      have hxk := hx k hk
      have hne : g ≠ k := fun e => by
        rw [e] at pc
        grind
      have hb : 0 < (dt k g : Rat) → m ≤ (((k.q : Rat) * p - (k.p : Rat) * q) * (g.r : Rat) - ((g.q : Rat) * p - (g.p : Rat) * q) * (k.r : Rat)) / (dt g k : Rat) := fun hdt => by
        have e1 := dt_cast g k
        have e2 := dt_cast k g
        have hgk : (dt g k : Rat) < 0 := by grind
        have ngk : dt g k ≠ 0 := fun z => by rw [z] at hgk; exact absurd hgk (by decide)
        have nkg : dt k g ≠ 0 := fun z => by rw [z] at hdt; exact absurd hdt (by decide)
        have ekg : (dt k g : Rat) = - (dt g k : Rat) := by grind
        rcases prs_mem (p := p) (q := q) hne hg hk with h | h
        · refine h2 _ (List.mem_append_right _ ?_)
          have : prB p q g k = some ((((k.q : Rat) * p - (k.p : Rat) * q) * (g.r : Rat) - ((g.q : Rat) * p - (g.p : Rat) * q) * (k.r : Rat)) / (dt g k : Rat)) := by
            unfold prB prW
            generalize (dt g k : Rat) = d at *
            have w1 : 0 < (p * (k.q : Rat) - q * (k.p : Rat)) / d := by
              have : (p * (k.q : Rat) - q * (k.p : Rat)) / d = (-(p * (k.q : Rat) - q * (k.p : Rat))) / (-d) := by grind
              rw [this, Rat.div_def]
              exact Rat.mul_pos (by grind) (Rat.inv_pos.mpr (by grind))
            have w2 : 0 < (q * (g.p : Rat) - p * (g.q : Rat)) / d := by
              have : (q * (g.p : Rat) - p * (g.q : Rat)) / d = (-(q * (g.p : Rat) - p * (g.q : Rat))) / (-d) := by grind
              rw [this, Rat.div_def]
              exact Rat.mul_pos (by grind) (Rat.inv_pos.mpr (by grind))
            rw [if_neg ngk, if_neg (by grind)]
            show some _ = some _
            congr 1
            grind
          rw [← this]
          exact h
        · refine h2 _ (List.mem_append_right _ ?_)
          have : prB p q k g = some ((((k.q : Rat) * p - (k.p : Rat) * q) * (g.r : Rat) - ((g.q : Rat) * p - (g.p : Rat) * q) * (k.r : Rat)) / (dt g k : Rat)) := by
            unfold prB prW
            rw [ekg] at hdt ⊢
            generalize (dt g k : Rat) = d at *
            have w1 : 0 < (p * (g.q : Rat) - q * (g.p : Rat)) / (-d) := by
              rw [Rat.div_def]
              exact Rat.mul_pos (by grind) (Rat.inv_pos.mpr (by grind))
            have w2 : 0 < (q * (k.p : Rat) - p * (k.q : Rat)) / (-d) := by
              rw [Rat.div_def]
              exact Rat.mul_pos (by grind) (Rat.inv_pos.mpr (by grind))
            rw [if_neg nkg, if_neg (by grind)]
            show some _ = some _
            congr 1
            grind
          rw [← this]
          exact h
      have e1 := dt_cast g k
      have e2 := dt_cast k g
      unfold valH at hxg hxk
      unfold lin2 at h1
      generalize (dt g k : Rat) = d at *
      generalize (dt k g : Rat) = d' at *
      generalize (g.p : Rat) = gp at *
      generalize (g.q : Rat) = gq at *
      generalize (g.r : Rat) = gr at *
      generalize (k.p : Rat) = kp at *
      generalize (k.q : Rat) = kq at *
      generalize (k.r : Rat) = kr at *
      obtain ⟨B, eB⟩ : ∃ B, gq * p - gp * q = B := ⟨_, rfl⟩
      obtain ⟨C, eC⟩ : ∃ C, kq * p - kp * q = C := ⟨_, rfl⟩
      rw [eB] at pc hb
      rw [eC] at nd hb
      have idW : (gp * p + gq * q) * (-C) + (kp * p + kq * q) * B = n2 * d' := by grind
      have goal2 : m * (n2 * d') ≤ n2 * (gr * (-C) + kr * B) := by
        by_cases hdt : 0 < d'
        · have w := mul_le (hb hdt) (Rat.le_of_lt (Rat.mul_pos hn hdt))
          have e3 : n2 * d' * ((C * gr - B * kr) / d) = n2 * (gr * (-C) + kr * B) := by
            have : d' = -d := by grind
            rw [this]
            have : d ≠ 0 := by grind
            grind
          rw [e3] at w
          grind
        · have nn : 0 ≤ -(n2 * d') := by
            have := mul_le (show (0 : Rat) ≤ -d' by grind) (Rat.le_of_lt hn)
            grind
          have w := mul_le h1 nn
          have a1 := mul_le hxg (show 0 ≤ n2 * (-C) by
            have := mul_le (show (0 : Rat) ≤ -C by grind) (Rat.le_of_lt hn)
            grind)
          have a2 := mul_le hxk (show 0 ≤ n2 * B by
            have := mul_le (show (0 : Rat) ≤ B by grind) (Rat.le_of_lt hn)
            grind)
          have e5 : n2 * d' * (p * x0.1 + q * x0.2) = n2 * (-C) * (gp * x0.1 + gq * x0.2) + n2 * B * (kp * x0.1 + kq * x0.2) := by grind
          have w' : n2 * d' * m ≤ n2 * d' * (p * x0.1 + q * x0.2) := by
            clear e5 a1 a2 idW hb
            generalize p * x0.1 + q * x0.2 = U at *
            generalize n2 * d' = V at *
            grind
          rw [e5] at w'
          clear e5 w nn idW hb eB eC e1 e2
          generalize gp * x0.1 + gq * x0.2 = U at *
          generalize kp * x0.1 + kq * x0.2 = V at *
          grind
      have fin : (gr * n2 - (gp * p + gq * q) * m) * (-C) + (kr * n2 - (kp * p + kq * q) * m) * B = n2 * (gr * (-C) + kr * B) - m * (n2 * d') := by
        rw [← idW]
        clear idW goal2 hb e1 e2 eB eC
        grind
      rw [eB, eC, fin]
      clear fin idW hb
      grind
  obtain ⟨v, hv⟩ := key
  refine ⟨((p * m - q * v) / n2, (q * m + p * v) / n2), fun g hg => ?_, ?_⟩
  · have := hv _ (List.mem_map.mpr ⟨g, hg, rfl⟩)
    dsimp only at this
    unfold valH
    generalize (g.p : Rat) = gp at *
    generalize (g.q : Rat) = gq at *
    generalize (g.r : Rat) = gr at *
    refine of_mul_le (a := n2) ?_ hn
    have e : n2 * (gp * ((p * m - q * v) / n2) + gq * ((q * m + p * v) / n2)) = gp * (p * m - q * v) + gq * (q * m + p * v) := by grind
    show n2 * (gp * ((p * m - q * v) / n2) + gq * ((q * m + p * v) / n2)) ≤ _
    rw [e]
    grind
  · unfold lin2
    show p * ((p * m - q * v) / n2) + q * ((q * m + p * v) / n2) = m
    have e : p * ((p * m - q * v) / n2) + q * ((q * m + p * v) / n2) = (p * p + q * q) * m / n2 := by grind
    rw [e, en]
    grind
end PG

set_option maxRecDepth 100000
set_option maxHeartbeats 4000000
namespace PG
open PySem PySem.Spec PyProof.Rows L2 RT

def ab (a : Int) : Int := if a < 0 then -a else a
def n1 (g : Hp3) : Int := ab g.p + ab g.q
def oppW (g k : Hp3) : Option (Int × Int) := if dt g k ≠ 0 ∨ 0 ≤ dotI g k then none else some (n1 k / (Int.gcd (n1 k) (n1 g) : Int), n1 g / (Int.gcd (n1 k) (n1 g) : Int))
def w3 (g k l : Hp3) : Int × Int × Int := if dt k l < 0 then (-dt k l, -dt l g, -dt g k) else (dt k l, dt l g, dt g k)
def gcd3 (a b c : Int) : Int := (Int.gcd (Int.gcd a b : Int) c : Int)
def triW (g k l : Hp3) : Option (Int × Int × Int) := if (w3 g k l).1 ≤ 0 ∨ (w3 g k l).2.1 ≤ 0 ∨ (w3 g k l).2.2 ≤ 0 then none else
  some ((w3 g k l).1 / gcd3 (w3 g k l).1 (w3 g k l).2.1 (w3 g k l).2.2, (w3 g k l).2.1 / gcd3 (w3 g k l).1 (w3 g k l).2.1 (w3 g k l).2.2, (w3 g k l).2.2 / gcd3 (w3 g k l).1 (w3 g k l).2.1 (w3 g k l).2.2)
theorem ab_nat (a : Int) : ab a = (a.natAbs : Int) := abs_eq a
theorem n1_pos {g : Hp3} (h : Dir g) : 0 < n1 g := by
  unfold n1 ab
  unfold Dir at h
  split <;> split <;> omega
theorem dt_swap (g k : Hp3) : dt k g = - dt g k := by
  unfold dt
  grind
theorem dot_dir {g k : Hp3} (h : dotI g k < 0) : Dir g ∧ Dir k := by
  unfold dotI at h
  exact ⟨fun ⟨a, b⟩ => by rw [a, b] at h; omega, fun ⟨a, b⟩ => by rw [a, b] at h; omega⟩
theorem opp_lam {g k : Hp3} (h0 : dt g k = 0) (h1 : dotI g k < 0) : ∃ t : Rat, 0 < t ∧ (k.p : Rat) = - t * (g.p : Rat) ∧ (k.q : Rat) = - t * (g.q : Rat) := by
  have hg := (dot_dir h1).1.pos
  have e0 := dt_cast g k
  rw [h0] at e0
  have e1 := dot_cast g k
  have e2 := dot_cast g g
  have h1' : (dotI g k : Rat) < 0 := Rat.intCast_neg_iff.mpr h1
  refine ⟨-(dotI g k : Rat) / (dotI g g : Rat), ?_, ?_, ?_⟩
  · rw [Rat.div_def]
    exact Rat.mul_pos (by grind) (Rat.inv_pos.mpr hg)
  · generalize (dotI g g : Rat) = d at *
    generalize (dotI g k : Rat) = e at *
    have : ((0 : Int) : Rat) = 0 := rfl
    grind
  · generalize (dotI g g : Rat) = d at *
    generalize (dotI g k : Rat) = e at *
    have : ((0 : Int) : Rat) = 0 := rfl
    grind
theorem ab_cast (a : Int) : (ab a : Rat) = if (a : Rat) < 0 then -(a : Rat) else (a : Rat) := by
  unfold ab
  by_cases h : a < 0
  · rw [if_pos h, if_pos (Rat.intCast_neg_iff.mpr h), Rat.intCast_neg]
  · rw [if_neg h, if_neg (fun z => h (Rat.intCast_neg_iff.mp z))]
theorem n1_cast (g : Hp3) : (n1 g : Rat) = (ab g.p : Rat) + (ab g.q : Rat) := by
  unfold n1
  rw [Rat.intCast_add]
theorem ab_mul {t a b : Rat} (ht : 0 < t) (h : b = - t * a) : (if b < 0 then -b else b) = t * (if a < 0 then -a else a) := by
  by_cases h0 : a = 0
  · subst h0
    have : b = 0 := by grind
    subst this
    simp
  · by_cases n : a < 0
    · have w := Rat.mul_pos ht (show 0 < -a by grind)
      rw [if_pos n, if_neg (by grind)]
      grind
    · have w := Rat.mul_pos ht (show 0 < a by grind)
      rw [if_neg n, if_pos (by grind)]
      grind
theorem opp_n1 {g k : Hp3} {t : Rat} (ht : 0 < t) (h1 : (k.p : Rat) = - t * (g.p : Rat)) (h2 : (k.q : Rat) = - t * (g.q : Rat)) : (n1 k : Rat) = t * (n1 g : Rat) := by
  rw [n1_cast, n1_cast, ab_cast, ab_cast, ab_cast, ab_cast, ab_mul ht h1, ab_mul ht h2]
  grind
theorem oppW_some {g k : Hp3} {a b : Int} (h : oppW g k = some (a, b)) : dt g k = 0 ∧ dotI g k < 0 ∧ 0 < a ∧ 0 < b ∧ ∃ d : Int, 0 < d ∧ a * d = n1 k ∧ b * d = n1 g := by
  unfold oppW at h
  split at h
  · cases h
  · rename_i hn
    have h0 : dt g k = 0 := by
      by_cases z : dt g k = 0
      · exact z
      · exact (hn (.inl z)).elim
    have h1 : dotI g k < 0 := by
      have : ¬ 0 ≤ dotI g k := fun z => hn (.inr z)
      omega
    have pg := n1_pos (dot_dir h1).1
    have pk := n1_pos (dot_dir h1).2
    have dv1 : (Int.gcd (n1 k) (n1 g) : Int) ∣ n1 k := Int.gcd_dvd_left ..
    have dv2 : (Int.gcd (n1 k) (n1 g) : Int) ∣ n1 g := Int.gcd_dvd_right ..
    have dpos : 0 < (Int.gcd (n1 k) (n1 g) : Int) := by
      have : Int.gcd (n1 k) (n1 g) ≠ 0 := fun e => by
        have := (Int.gcd_eq_zero_iff.mp e).1
        omega
      omega
    generalize (Int.gcd (n1 k) (n1 g) : Int) = d at *
    cases h
    have e1 := Int.ediv_mul_cancel dv1
    have e2 := Int.ediv_mul_cancel dv2
    refine ⟨h0, h1, ?_, ?_, d, dpos, e1, e2⟩
    · rw [← e1] at pk
      exact Int.pos_of_mul_pos_right pk dpos
    · rw [← e2] at pg
      exact Int.pos_of_mul_pos_right pg dpos
where
  Int.pos_of_mul_pos_right {a d : Int} (h : 0 < a * d) (hd : 0 < d) : 0 < a := by
    rcases Int.lt_trichotomy a 0 with z | z | z
    · have := Int.mul_neg_of_neg_of_pos z hd
      omega
    · rw [z] at h
      omega
    · exact z
theorem mul_cancel_r {a b d : Rat} (hd : d ≠ 0) (h : a * d = b * d) : a = b := by
  have : a = a * d / d := by grind
  rw [this, h]
  grind
theorem oppW_dep {g k : Hp3} {a b : Int} (h : oppW g k = some (a, b)) : (a : Rat) * (g.p : Rat) + (b : Rat) * (k.p : Rat) = 0 ∧ (a : Rat) * (g.q : Rat) + (b : Rat) * (k.q : Rat) = 0 := by
  obtain ⟨h0, h1, pa, pb, d, hd, ea, eb⟩ := oppW_some h
  obtain ⟨t, ht, e1, e2⟩ := opp_lam h0 h1
  have en := opp_n1 ht e1 e2
  rw [← ea, ← eb, castI, castI] at en
  have hd' : (0 : Rat) < (d : Rat) := Rat.intCast_pos.mpr hd
  generalize (d : Rat) = d at *
  generalize (a : Rat) = a at *
  generalize (b : Rat) = b at *
  have : a = t * b := mul_cancel_r (show d ≠ 0 by grind) (by grind)
  rw [e1, e2, this]
  constructor <;> grind
theorem triW_some {g k l : Hp3} {a b c : Int} (h : triW g k l = some (a, b, c)) : 0 < a ∧ 0 < b ∧ 0 < c ∧ ∃ d : Int, d ≠ 0 ∧ a * d = dt k l ∧ b * d = dt l g ∧ c * d = dt g k := by
  unfold triW at h
  split at h
  · cases h
  · rename_i hn
    have p1 : 0 < (w3 g k l).1 := by
      have : ¬ (w3 g k l).1 ≤ 0 := fun z => hn (.inl z)
      omega
    have p2 : 0 < (w3 g k l).2.1 := by
      have : ¬ (w3 g k l).2.1 ≤ 0 := fun z => hn (.inr (.inl z))
      omega
    have p3 : 0 < (w3 g k l).2.2 := by
      have : ¬ (w3 g k l).2.2 ≤ 0 := fun z => hn (.inr (.inr z))
      omega
    obtain ⟨s, hs, s1, s2, s3⟩ : ∃ s : Int, s ≠ 0 ∧ (w3 g k l).1 * s = dt k l ∧ (w3 g k l).2.1 * s = dt l g ∧ (w3 g k l).2.2 * s = dt g k := by
      unfold w3
      split
      · exact ⟨-1, by decide, by dsimp only; omega, by dsimp only; omega, by dsimp only; omega⟩
      · exact ⟨1, by decide, by dsimp only; omega, by dsimp only; omega, by dsimp only; omega⟩
    generalize (w3 g k l).1 = x at *
    generalize (w3 g k l).2.1 = y at *
    generalize (w3 g k l).2.2 = z at *
    have dv : (Int.gcd x y : Int) ∣ x ∧ (Int.gcd x y : Int) ∣ y := ⟨Int.gcd_dvd_left .., Int.gcd_dvd_right ..⟩
    have dv0 : gcd3 x y z ∣ (Int.gcd x y : Int) := Int.gcd_dvd_left ..
    have dv1 : gcd3 x y z ∣ x := Int.dvd_trans dv0 dv.1
    have dv2 : gcd3 x y z ∣ y := Int.dvd_trans dv0 dv.2
    have dv3 : gcd3 x y z ∣ z := Int.gcd_dvd_right ..
    have dpos : 0 < gcd3 x y z := by
      have : Int.gcd (Int.gcd x y : Int) z ≠ 0 := fun e => by
        have := (Int.gcd_eq_zero_iff.mp e).2
        omega
      unfold gcd3
      omega
    generalize gcd3 x y z = d at *
    cases h
    have e1 := Int.ediv_mul_cancel dv1
    have e2 := Int.ediv_mul_cancel dv2
    have e3 := Int.ediv_mul_cancel dv3
    refine ⟨?_, ?_, ?_, d * s, ?_, ?_, ?_, ?_⟩
    · rw [← e1] at p1
      exact oppW_some.Int.pos_of_mul_pos_right p1 dpos
    · rw [← e2] at p2
      exact oppW_some.Int.pos_of_mul_pos_right p2 dpos
    · rw [← e3] at p3
      exact oppW_some.Int.pos_of_mul_pos_right p3 dpos
    · exact Int.mul_ne_zero (by omega) hs
    · rw [← Int.mul_assoc, e1, s1]
    · rw [← Int.mul_assoc, e2, s2]
    · rw [← Int.mul_assoc, e3, s3]
theorem triW_dep {g k l : Hp3} {a b c : Int} (h : triW g k l = some (a, b, c)) : (a : Rat) * (g.p : Rat) + (b : Rat) * (k.p : Rat) + (c : Rat) * (l.p : Rat) = 0 ∧ (a : Rat) * (g.q : Rat) + (b : Rat) * (k.q : Rat) + (c : Rat) * (l.q : Rat) = 0 := by
  obtain ⟨_, _, _, d, hd, e1, e2, e3⟩ := triW_some h
  have hd' : (d : Rat) ≠ 0 := fun z => hd (Rat.intCast_eq_zero_iff.mp z)
  have f1 : (a : Rat) * (d : Rat) = (dt k l : Rat) := by rw [← castI, e1]
  have f2 : (b : Rat) * (d : Rat) = (dt l g : Rat) := by rw [← castI, e2]
  have f3 : (c : Rat) * (d : Rat) = (dt g k : Rat) := by rw [← castI, e3]
  rw [dt_cast] at f1 f2 f3
  generalize (d : Rat) = d at *
  generalize (a : Rat) = a at *
  generalize (b : Rat) = b at *
  generalize (c : Rat) = c at *
  constructor
  · have : d * (a * (g.p : Rat) + b * (k.p : Rat) + c * (l.p : Rat)) = 0 := by grind
    grind
  · have : d * (a * (g.q : Rat) + b * (k.q : Rat) + c * (l.q : Rat)) = 0 := by grind
    grind

def C2 (g k : Hp3) : Prop := ∃ t : Rat, 0 < t ∧ (k.p : Rat) = - t * (g.p : Rat) ∧ (k.q : Rat) = - t * (g.q : Rat) ∧ Dir g ∧ t * (g.r : Rat) + (k.r : Rat) < 0
def C3 (g k l : Hp3) : Prop := ∃ a b c : Rat, 0 < a ∧ 0 < b ∧ 0 < c ∧ a * (g.p : Rat) + b * (k.p : Rat) + c * (l.p : Rat) = 0 ∧ a * (g.q : Rat) + b * (k.q : Rat) + c * (l.q : Rat) = 0 ∧ a * (g.r : Rat) + b * (k.r : Rat) + c * (l.r : Rat) < 0 ∧ dt g k ≠ 0
theorem helly : ∀ {hs : List Hp3}, (∀ g ∈ hs, Dir g) → (∃ x, Rg hs x) ∨ (∃ g ∈ hs, ∃ k ∈ hs, C2 g k) ∨ (∃ g ∈ hs, ∃ k ∈ hs, ∃ l ∈ hs, C3 g k l)
  | [], _ => .inl ⟨(0, 0), fun g hg => nomatch hg⟩
  | g :: r, hd => by
    rcases helly (hs := r) fun k hk => hd k (List.mem_cons_of_mem _ hk) with ⟨x0, hx⟩ | ⟨k, hk, l, hl, h⟩ | ⟨k, hk, l, hl, m, hm, h⟩
    · by_cases c : valH g x0 ≤ (g.r : Rat)
      · refine .inl ⟨x0, fun k hk => ?_⟩
        rcases List.mem_cons.mp hk with e | e
        · rw [e]; exact c
        · exact hx k e
      · have dg := (hd g List.mem_cons_self).rat
        have hpq : ¬ (-(g.p : Rat) = 0 ∧ -(g.q : Rat) = 0) := fun ⟨a, b⟩ => dg ⟨by grind, by grind⟩
        by_cases hall : ∀ b, some b ∈ bounds (-(g.p : Rat)) (-(g.q : Rat)) r → -(g.r : Rat) ≤ b
        · obtain ⟨x, hx1, hx2⟩ := reach hpq (fun k hk => hd k (List.mem_cons_of_mem _ hk)) hx (m := -(g.r : Rat)) (by unfold lin2; unfold valH at c; grind) hall
          refine .inl ⟨x, fun k hk => ?_⟩
          rcases List.mem_cons.mp hk with e | e
          · rw [e]
            unfold lin2 at hx2
            unfold valH
            grind
          · exact hx1 k e
        · obtain ⟨b, hb⟩ : ∃ b, ¬ (some b ∈ bounds (-(g.p : Rat)) (-(g.q : Rat)) r → -(g.r : Rat) ≤ b) := Classical.not_forall.mp hall
          obtain ⟨hb1, hb2⟩ := Classical.not_imp.mp hb
          refine .inr ?_
          rcases List.mem_append.mp hb1 with h | h
          · obtain ⟨k, hk, e⟩ := List.mem_map.mp h
            refine .inl ⟨k, List.mem_cons_of_mem _ hk, g, List.mem_cons_self, ?_⟩
            unfold sglB at e
            split at e
            · rename_i hc
              have e := Option.some.inj e
              have hp := (hd k (List.mem_cons_of_mem _ hk)).pos
              have e2 := dot_cast k k
              generalize (dotI k k : Rat) = d at *
              refine ⟨((k.p : Rat) * -(g.p : Rat) + (k.q : Rat) * -(g.q : Rat)) / d, ?_, ?_, ?_, hd k (List.mem_cons_of_mem _ hk), ?_⟩
              · rw [Rat.div_def]
                exact Rat.mul_pos hc.2 (Rat.inv_pos.mpr hp)
              · grind
              · grind
              · rw [e]
                grind
            · cases e
          · obtain ⟨k, hk, l, hl, e⟩ := mem_prs h
            refine .inr ⟨k, List.mem_cons_of_mem _ hk, l, List.mem_cons_of_mem _ hl, g, List.mem_cons_self, ?_⟩
            unfold prB at e
            cases hw : prW (-(g.p : Rat)) (-(g.q : Rat)) k l with
            | none =>
              rw [hw] at e
              cases e
            | some w =>
              rw [hw] at e
              obtain ⟨nd, w1, w2, f1, f2⟩ := prW_some hw
              have e' : b = w.1 * (k.r : Rat) + w.2 * (l.r : Rat) := Option.some.inj e
              exact ⟨w.1, w.2, 1, w1, w2, by decide, by grind, by grind, by grind, nd⟩
    · exact .inr (.inl ⟨k, List.mem_cons_of_mem _ hk, l, List.mem_cons_of_mem _ hl, h⟩)
    · exact .inr (.inr ⟨k, List.mem_cons_of_mem _ hk, l, List.mem_cons_of_mem _ hl, m, List.mem_cons_of_mem _ hm, h⟩)
end PG

set_option maxRecDepth 100000
set_option maxHeartbeats 4000000
namespace PG
open PySem PySem.Spec PyProof.Rows L2 RT
theorem lgm {a b : Int} {n m : Nat} (h1 : a.natAbs.log2 + 2 ≤ n) (h2 : b.natAbs.log2 + 2 ≤ m) : (a * b).natAbs.log2 + 3 ≤ n + m := by
  have := @log2_mul_le a.natAbs b.natAbs
  rw [Int.natAbs_mul]
  omega
theorem lga {a b : Int} {n : Nat} (h1 : a.natAbs.log2 ≤ n) (h2 : b.natAbs.log2 ≤ n) : (a + b).natAbs.log2 ≤ n + 1 := by
  have := log2_mono (Int.natAbs_add_le a b)
  have := @log2_add_le a.natAbs b.natAbs
  omega
theorem lgs {a b : Int} {n : Nat} (h1 : a.natAbs.log2 ≤ n) (h2 : b.natAbs.log2 ≤ n) : (a - b).natAbs.log2 ≤ n + 1 := by
  rw [Int.sub_eq_add_neg]
  exact lga h1 (by rw [Int.natAbs_neg]; exact h2)
theorem dt_z {n : Nat} {g k : Hp3} (hg : HZ n g) (hk : HZ n k) : (dt g k).natAbs.log2 + 2 ≤ 2 * n := by
  have a := lgm hg.1 hk.2.1
  have b := lgm hg.2.1 hk.1
  have := lgs (a := g.p * k.q) (b := g.q * k.p) (n := 2 * n - 3) (by omega) (by omega)
  unfold dt
  omega
theorem dot_z {n : Nat} {g k : Hp3} (hg : HZ n g) (hk : HZ n k) : (dotI g k).natAbs.log2 + 2 ≤ 2 * n := by
  have a := lgm hg.1 hk.1
  have b := lgm hg.2.1 hk.2.1
  have := lga (a := g.p * k.p) (b := g.q * k.q) (n := 2 * n - 3) (by omega) (by omega)
  unfold dotI
  omega
section
variable {st : List Cell} {Q : Vl → List Cell → Prop} {g k l : Hp3} {n : Nat}
theorem ifd {P : Prop} [Decidable P] {A B : Prop} (ht : P → A) (hf : ¬ P → B) : if decide P = true then A else B := by
  by_cases h : P
  · rw [if_pos (decide_eq_true h)]
    exact ht h
  · rw [if_neg (by simpa using h)]
    exact hf h
end
end PG

set_option maxRecDepth 100000
set_option maxHeartbeats 4000000
namespace PG
open PySem PySem.Spec PyProof.Rows L2 RT

def hAt (hs : List Hp3) (i : Nat) : Hp3 := hs.getD i ⟨1, 0, 0⟩
abbrev OSet := List Nat × Option (List Int)
def pr2 (hs : List Hp3) (i j : Nat) : OSet := ([i, j], (oppW (hAt hs i) (hAt hs j)).map fun w => [w.1, w.2])
def pr3 (hs : List Hp3) (i j k : Nat) : OSet := ([i, j, k], (triW (hAt hs i) (hAt hs j) (hAt hs k)).map fun w => [w.1, w.2.1, w.2.2])
def upTo (n k : Nat) : List Nat := List.range' (k + 1) (n - (k + 1))
def allP (hs : List Hp3) : List OSet := (List.range' 0 hs.length).flatMap fun i => (upTo hs.length i).flatMap fun j => [pr2 hs i j]
def allT (hs : List Hp3) : List OSet := (List.range' 0 hs.length).flatMap fun i => (upTo hs.length i).flatMap fun j => (upTo hs.length j).flatMap fun k => [pr3 hs i j k]
def osets (hs : List Hp3) : List (List Nat × List Int) := (allP hs ++ allT hs).filterMap fun s => s.2.map fun w => (s.1, w)
theorem hAt_get {hs : List Hp3} {i : Nat} (h : i < hs.length) : hs[i]? = some (hAt hs i) := by
  unfold hAt
  rw [List.getD_eq_getElem?_getD, List.getElem?_eq_getElem h]
  rfl
theorem hAt_mem {hs : List Hp3} {i : Nat} (h : i < hs.length) : hAt hs i ∈ hs := List.mem_of_getElem? (hAt_get h)
section
variable {st : List Cell} {Q : Vl → List Cell → Prop} {hs : List Hp3} {n : Nat}
end
end PG

set_option maxRecDepth 100000
set_option maxHeartbeats 4000000
namespace PG
open PySem PySem.Spec PyProof.Rows L2 RT
def numOf (hs : List Hp3) (s : List Nat × List Int) : Int := ((s.1.zip s.2).map fun p => (hAt hs p.1).r * p.2).sum
def emptyB (hs : List Hp3) : Bool := (osets hs).any fun s => decide (numOf hs s < 0)
theorem mem_upTo {n k j : Nat} : j ∈ upTo n k ↔ k < j ∧ j < n := by
  unfold upTo
  rw [List.mem_range'_1]
  omega
inductive OS (hs : List Hp3) : List Nat × List Int → Prop where
  | two (i j : Nat) (a b : Int) (h1 : i < j) (h2 : j < hs.length) (h : oppW (hAt hs i) (hAt hs j) = some (a, b)) : OS hs ([i, j], [a, b])
  | three (i j k : Nat) (a b c : Int) (h1 : i < j) (h2 : j < k) (h3 : k < hs.length) (h : triW (hAt hs i) (hAt hs j) (hAt hs k) = some (a, b, c)) : OS hs ([i, j, k], [a, b, c])
theorem mem_osets {hs : List Hp3} {s : List Nat × List Int} : s ∈ osets hs ↔ OS hs s := by
  unfold osets
  rw [List.mem_filterMap]
  constructor
  · rintro ⟨⟨ix, o⟩, hm, e⟩
    rcases List.mem_append.mp hm with h | h
    · obtain ⟨i, hi, h⟩ := List.mem_flatMap.mp h
      obtain ⟨j, hj, h⟩ := List.mem_flatMap.mp h
      have hj := mem_upTo.mp hj
      cases List.mem_singleton.mp h
      cases hw : oppW (hAt hs i) (hAt hs j) with
      | none =>
        simp [hw] at e
      | some w =>
        simp [hw] at e
        subst e
        exact .two i j w.1 w.2 hj.1 hj.2 hw
    · obtain ⟨i, hi, h⟩ := List.mem_flatMap.mp h
      obtain ⟨j, hj, h⟩ := List.mem_flatMap.mp h
      obtain ⟨k, hk, h⟩ := List.mem_flatMap.mp h
      have hj := mem_upTo.mp hj
      have hk := mem_upTo.mp hk
      cases List.mem_singleton.mp h
      cases hw : triW (hAt hs i) (hAt hs j) (hAt hs k) with
      | none =>
        simp [hw] at e
      | some w =>
        simp [hw] at e
        subst e
        exact .three i j k w.1 w.2.1 w.2.2 hj.1 hk.1 hk.2 hw
  · intro h
    cases h with
    | two i j a b h1 h2 h =>
      refine ⟨pr2 hs i j, List.mem_append_left _ (List.mem_flatMap.mpr ⟨i, by rw [List.mem_range'_1]; omega, List.mem_flatMap.mpr ⟨j, mem_upTo.mpr ⟨h1, h2⟩, List.mem_singleton.mpr rfl⟩⟩), ?_⟩
      unfold pr2
      rw [h]
      rfl
    | three i j k a b c h1 h2 h3 h =>
      refine ⟨pr3 hs i j k, List.mem_append_right _ (List.mem_flatMap.mpr ⟨i, by rw [List.mem_range'_1]; omega, List.mem_flatMap.mpr ⟨j, mem_upTo.mpr ⟨h1, by omega⟩, List.mem_flatMap.mpr ⟨k, mem_upTo.mpr ⟨h2, h3⟩, List.mem_singleton.mpr rfl⟩⟩⟩), ?_⟩
      unfold pr3
      rw [h]
      rfl
theorem num2 (hs : List Hp3) (i j : Nat) (a b : Int) : numOf hs ([i, j], [a, b]) = (hAt hs i).r * a + (hAt hs j).r * b := by
  show (hAt hs i).r * a + ((hAt hs j).r * b + 0) = _
  omega
theorem num3 (hs : List Hp3) (i j k : Nat) (a b c : Int) : numOf hs ([i, j, k], [a, b, c]) = (hAt hs i).r * a + (hAt hs j).r * b + (hAt hs k).r * c := by
  show (hAt hs i).r * a + ((hAt hs j).r * b + ((hAt hs k).r * c + 0)) = _
  omega
theorem cast_neg {z : Int} (h : z < 0) : (z : Rat) < 0 := Rat.intCast_neg_iff.mpr h
theorem cast_pos {z : Int} (h : 0 < z) : (0 : Rat) < (z : Rat) := Rat.intCast_pos.mpr h
theorem os_neg {hs : List Hp3} {s : List Nat × List Int} (h : OS hs s) (hn : numOf hs s < 0) (x : Ray) : ¬ Rg hs x := fun hx => by
  have hn' := cast_neg hn
  cases h with
  | two i j a b h1 h2 h =>
    obtain ⟨_, _, pa, pb, _⟩ := oppW_some h
    obtain ⟨e1, e2⟩ := oppW_dep h
    rw [num2, Rat.intCast_add, castI, castI] at hn'
    have a1 := mul_le (hx _ (hAt_mem (show i < hs.length by omega))) (Rat.le_of_lt (cast_pos pa))
    have a2 := mul_le (hx _ (hAt_mem (show j < hs.length by omega))) (Rat.le_of_lt (cast_pos pb))
    unfold valH at a1 a2
    generalize (a : Rat) = a at *
    generalize (b : Rat) = b at *
    have e3 : a * (((hAt hs i).p : Rat) * x.1 + ((hAt hs i).q : Rat) * x.2) + b * (((hAt hs j).p : Rat) * x.1 + ((hAt hs j).q : Rat) * x.2) = 0 := by
      have : a * (((hAt hs i).p : Rat) * x.1 + ((hAt hs i).q : Rat) * x.2) + b * (((hAt hs j).p : Rat) * x.1 + ((hAt hs j).q : Rat) * x.2) = (a * ((hAt hs i).p : Rat) + b * ((hAt hs j).p : Rat)) * x.1 + (a * ((hAt hs i).q : Rat) + b * ((hAt hs j).q : Rat)) * x.2 := by grind
      rw [this, e1, e2]
      grind
    grind
  | three i j k a b c h1 h2 h3 h =>
    obtain ⟨pa, pb, pc, _⟩ := triW_some h
    obtain ⟨e1, e2⟩ := triW_dep h
    rw [num3, Rat.intCast_add, Rat.intCast_add, castI, castI, castI] at hn'
    have a1 := mul_le (hx _ (hAt_mem (show i < hs.length by omega))) (Rat.le_of_lt (cast_pos pa))
    have a2 := mul_le (hx _ (hAt_mem (show j < hs.length by omega))) (Rat.le_of_lt (cast_pos pb))
    have a3 := mul_le (hx _ (hAt_mem (show k < hs.length by omega))) (Rat.le_of_lt (cast_pos pc))
    unfold valH at a1 a2 a3
    generalize (a : Rat) = a at *
    generalize (b : Rat) = b at *
    generalize (c : Rat) = c at *
    have e3 : a * (((hAt hs i).p : Rat) * x.1 + ((hAt hs i).q : Rat) * x.2) + b * (((hAt hs j).p : Rat) * x.1 + ((hAt hs j).q : Rat) * x.2) + c * (((hAt hs k).p : Rat) * x.1 + ((hAt hs k).q : Rat) * x.2) = 0 := by
      have : a * (((hAt hs i).p : Rat) * x.1 + ((hAt hs i).q : Rat) * x.2) + b * (((hAt hs j).p : Rat) * x.1 + ((hAt hs j).q : Rat) * x.2) + c * (((hAt hs k).p : Rat) * x.1 + ((hAt hs k).q : Rat) * x.2) = (a * ((hAt hs i).p : Rat) + b * ((hAt hs j).p : Rat) + c * ((hAt hs k).p : Rat)) * x.1 + (a * ((hAt hs i).q : Rat) + b * ((hAt hs j).q : Rat) + c * ((hAt hs k).q : Rat)) * x.2 := by grind
      rw [this, e1, e2]
      grind
    grind

theorem C2.symm {g k : Hp3} : C2 g k → C2 k g := fun ⟨t, ht, e1, e2, dg, hn⟩ => by
  have ti : 0 < 1 / t := by
    rw [Rat.div_def]
    exact Rat.mul_pos (by decide) (Rat.inv_pos.mpr ht)
  refine ⟨1 / t, ti, by grind, by grind, fun ⟨a, b⟩ => ?_, ?_⟩
  · rw [a] at e1
    rw [b] at e2
    have z : ((0 : Int) : Rat) = 0 := rfl
    refine dg ⟨Rat.intCast_eq_zero_iff.mp ?_, Rat.intCast_eq_zero_iff.mp ?_⟩
    · grind
    · grind
  · have w := mul_lt ti hn
    have : 1 / t * (t * (g.r : Rat) + (k.r : Rat)) = (g.r : Rat) + 1 / t * (k.r : Rat) := by grind
    rw [this] at w
    grind
where
  mul_lt {t a : Rat} (ht : 0 < t) (h : a < 0) : t * a < 0 := by
    have := Rat.mul_pos ht (show 0 < -a by grind)
    grind
theorem C2.opp {g k : Hp3} (h : C2 g k) : ∃ a b, oppW g k = some (a, b) ∧ (g.r * a + k.r * b : Int) < 0 := by
  obtain ⟨t, ht, e1, e2, dg, hn⟩ := h
  have z : ((0 : Int) : Rat) = 0 := rfl
  have h0 : dt g k = 0 := Rat.intCast_inj.mp (by rw [dt_cast, e1, e2, z]; grind)
  have hpos := dg.pos
  have h1 : dotI g k < 0 := Rat.intCast_neg_iff.mp (by
    have : (dotI g k : Rat) = -(t * (dotI g g : Rat)) := by
      rw [dot_cast, dot_cast, e1, e2]
      grind
    rw [this]
    have := Rat.mul_pos ht hpos
    grind)
  have hw : ∃ w, oppW g k = some w := by
    unfold oppW
    rw [if_neg (by omega)]
    exact ⟨_, rfl⟩
  obtain ⟨⟨a, b⟩, hw⟩ := hw
  obtain ⟨_, _, pa, pb, d, hd, ea, eb⟩ := oppW_some hw
  have en := opp_n1 ht e1 e2
  rw [← ea, ← eb, castI, castI] at en
  have hd' := cast_pos hd
  have pb' := cast_pos pb
  refine ⟨a, b, hw, Rat.intCast_neg_iff.mp ?_⟩
  rw [Rat.intCast_add, castI, castI]
  have eab : (a : Rat) = t * (b : Rat) := mul_cancel_r (show (d : Rat) ≠ 0 by grind) (by grind)
  rw [eab]
  have w := C2.symm.mul_lt pb' hn
  grind
theorem C3.perm1 {g k l : Hp3} : C3 g k l → C3 k g l := fun ⟨a, b, c, pa, pb, pc, e1, e2, hn, nd⟩ => ⟨b, a, c, pb, pa, pc, by grind, by grind, by grind, by rw [dt_swap]; omega⟩
theorem C3.nd {g k l : Hp3} : C3 g k l → dt k l ≠ 0 := fun ⟨a, b, c, pa, pb, pc, e1, e2, hn, nd⟩ z => by
  have h1 := dt_cast g k
  have h2 := dt_cast k l
  rw [z] at h2
  have z0 : ((0 : Int) : Rat) = 0 := rfl
  have nd' : (dt g k : Rat) ≠ 0 := fun y => nd (Rat.intCast_eq_zero_iff.mp y)
  rw [h1] at nd'
  -- cross with k: a dt(g, k) = c dt(k, l)
  have : a * ((g.p : Rat) * (k.q : Rat) - (g.q : Rat) * (k.p : Rat)) = 0 := by grind
  grind
theorem C3.perm2 {g k l : Hp3} (h : C3 g k l) : C3 k l g := by
  have nd := h.nd
  obtain ⟨a, b, c, pa, pb, pc, e1, e2, hn, _⟩ := h
  exact ⟨b, c, a, pb, pc, pa, by grind, by grind, by grind, nd⟩
theorem C3.tri {g k l : Hp3} (h : C3 g k l) : ∃ a b c, triW g k l = some (a, b, c) ∧ (g.r * a + k.r * b + l.r * c : Int) < 0 := by
  have nkl := h.nd
  have nlg := h.perm2.nd
  obtain ⟨a, b, c, pa, pb, pc, e1, e2, hn, nd⟩ := h
  have h1 := dt_cast g k
  have h2 := dt_cast k l
  have h3 := dt_cast l g
  -- the weights go with the determinants
  have f1 : b * (dt k l : Rat) = a * (dt l g : Rat) := by rw [h2, h3]; grind
  have f2 : c * (dt k l : Rat) = a * (dt g k : Rat) := by rw [h1, h2]; grind
  have nkl' : (dt k l : Rat) ≠ 0 := fun y => nkl (Rat.intCast_eq_zero_iff.mp y)
  have fb : (dt l g : Rat) = b / a * (dt k l : Rat) := by grind
  have fc : (dt g k : Rat) = c / a * (dt k l : Rat) := by grind
  have pb' : 0 < b / a := by
    rw [Rat.div_def]
    exact Rat.mul_pos pb (Rat.inv_pos.mpr pa)
  have pc' : 0 < c / a := by
    rw [Rat.div_def]
    exact Rat.mul_pos pc (Rat.inv_pos.mpr pa)
  have hw : ∃ w, triW g k l = some w := by
    unfold triW
    rw [if_neg ?_]
    · exact ⟨_, rfl⟩
    · unfold w3
      by_cases s : dt k l < 0
      · rw [if_pos s]
        have s' := cast_neg s
        have u1 := Rat.mul_pos pb' (show 0 < -(dt k l : Rat) by grind)
        have u2 := Rat.mul_pos pc' (show 0 < -(dt k l : Rat) by grind)
        have v1 : dt l g < 0 := Rat.intCast_neg_iff.mp (by rw [fb]; grind)
        have v2 : dt g k < 0 := Rat.intCast_neg_iff.mp (by rw [fc]; grind)
        dsimp only
        omega
      · rw [if_neg s]
        have s2 : 0 < dt k l := by omega
        have s' := cast_pos s2
        have v1 : 0 < dt l g := Rat.intCast_pos.mp (by rw [fb]; exact Rat.mul_pos pb' s')
        have v2 : 0 < dt g k := Rat.intCast_pos.mp (by rw [fc]; exact Rat.mul_pos pc' s')
        dsimp only
        omega
  obtain ⟨⟨x, y, z⟩, hw⟩ := hw
  obtain ⟨px, py, pz, d, hd, ex, ey, ez⟩ := triW_some hw
  refine ⟨x, y, z, hw, Rat.intCast_neg_iff.mp ?_⟩
  have gx : (x : Rat) * (d : Rat) = (dt k l : Rat) := by rw [← castI, ex]
  have gy : (y : Rat) * (d : Rat) = (dt l g : Rat) := by rw [← castI, ey]
  have gz : (z : Rat) * (d : Rat) = (dt g k : Rat) := by rw [← castI, ez]
  have hd' : (d : Rat) ≠ 0 := fun y => hd (Rat.intCast_eq_zero_iff.mp y)
  have px' := cast_pos px
  have hy : (y : Rat) = b / a * (x : Rat) := mul_cancel_r hd' (by rw [gy, fb, ← gx]; grind)
  have hz : (z : Rat) = c / a * (x : Rat) := mul_cancel_r hd' (by rw [gz, fc, ← gx]; grind)
  rw [Rat.intCast_add, Rat.intCast_add, castI, castI, castI, hy, hz]
  have w := C2.symm.mul_lt (Rat.mul_pos px' (show 0 < 1 / a by rw [Rat.div_def]; exact Rat.mul_pos (by decide) (Rat.inv_pos.mpr pa))) hn
  have e : (x : Rat) * (1 / a) * (a * (g.r : Rat) + b * (k.r : Rat) + c * (l.r : Rat)) = (g.r : Rat) * (x : Rat) + (k.r : Rat) * (b / a * (x : Rat)) + (l.r : Rat) * (c / a * (x : Rat)) := by grind
  rw [← e]
  exact w
theorem mem_at {hs : List Hp3} {g : Hp3} (h : g ∈ hs) : ∃ i, i < hs.length ∧ hAt hs i = g := by
  obtain ⟨i, hi⟩ := List.getElem?_of_mem h
  have hl := (List.getElem?_eq_some_iff.mp hi).1
  exact ⟨i, hl, by rw [hAt_get hl] at hi; exact Option.some.inj hi⟩
theorem emptyB_iff {hs : List Hp3} (hd : ∀ g ∈ hs, Dir g) : emptyB hs = true ↔ ¬ ∃ x, Rg hs x := by
  unfold emptyB
  rw [List.any_eq_true]
  constructor
  · rintro ⟨s, hs', hn⟩ ⟨x, hx⟩
    exact os_neg (mem_osets.mp hs') (of_decide_eq_true hn) x hx
  · intro hno
    have two : ∀ i j, i < j → j < hs.length → C2 (hAt hs i) (hAt hs j) → ∃ s, s ∈ osets hs ∧ decide (numOf hs s < 0) = true := fun i j hij hj h => by
      obtain ⟨a, b, hw, hn⟩ := h.opp
      exact ⟨_, mem_osets.mpr (.two i j a b hij hj hw), decide_eq_true (by rw [num2]; exact hn)⟩
    have three : ∀ i j k, i < j → j < k → k < hs.length → C3 (hAt hs i) (hAt hs j) (hAt hs k) → ∃ s, s ∈ osets hs ∧ decide (numOf hs s < 0) = true := fun i j k hij hjk hk h => by
      obtain ⟨a, b, c, hw, hn⟩ := h.tri
      exact ⟨_, mem_osets.mpr (.three i j k a b c hij hjk hk hw), decide_eq_true (by rw [num3]; exact hn)⟩
    rcases helly hd with h | ⟨g, hg, k, hk, h⟩ | ⟨g, hg, k, hk, l, hl, h⟩
    · exact (hno h).elim
    · obtain ⟨i, hi, rfl⟩ := mem_at hg
      obtain ⟨j, hj, rfl⟩ := mem_at hk
      rcases Nat.lt_trichotomy i j with z | z | z
      · exact two i j z hj h
      · subst z
        obtain ⟨t, ht, e1, e2, dg, _⟩ := h
        have := dg.rat
        refine (this ⟨?_, ?_⟩).elim
        · have : (1 + t) * ((hAt hs i).p : Rat) = 0 := by grind
          exact (Rat.mul_eq_zero.mp this).resolve_left (by grind)
        · have : (1 + t) * ((hAt hs i).q : Rat) = 0 := by grind
          exact (Rat.mul_eq_zero.mp this).resolve_left (by grind)
      · exact two j i z hi h.symm
    · obtain ⟨i, hi, rfl⟩ := mem_at hg
      obtain ⟨j, hj, rfl⟩ := mem_at hk
      obtain ⟨k, hk', rfl⟩ := mem_at hl
      have dd : ∀ g : Hp3, dt g g = 0 := fun g => by unfold dt; grind
      have nij : i ≠ j := fun z => by
        obtain ⟨a, b, c, pa, pb, pc, e1, e2, hn, nd⟩ := h
        rw [z] at nd
        exact nd (dd _)
      have njk : j ≠ k := fun z => by
        have := h.nd
        rw [z] at this
        exact this (dd _)
      have nki : k ≠ i := fun z => by
        have := h.perm2.nd
        rw [z] at this
        exact this (dd _)
      rcases Nat.lt_or_gt_of_ne nij with a | a <;> rcases Nat.lt_or_gt_of_ne njk with b | b <;> rcases Nat.lt_or_gt_of_ne nki with c | c
      · omega
      · exact three i j k a b hk' h
      · exact three k i j c a hj h.perm2.perm2
      · exact three i k j c b hj h.perm2.perm2.perm1
      · exact three j k i b c hi h.perm2
      · exact three j i k a c hk' h.perm1
      · exact three k j i b a hi h.perm2.perm1
      · omega
end PG

set_option maxRecDepth 100000
set_option maxHeartbeats 4000000
namespace PG
open PySem PySem.Spec PyProof.Rows L2 RT

section
variable {st : List Cell} {Q : Vl → List Cell → Prop} {hs : List Hp3} {n : Nat}
end
end PG

set_option maxRecDepth 100000
set_option maxHeartbeats 4000000
namespace PG
open PySem PySem.Spec PyProof.Rows L2 RT
theorem zb0 : zb 0 = 2 := by decide +kernel
section
variable {st : List Cell} {Q : Vl → List Cell → Prop} {hs : List Hp3} {n : Nat}
end
end PG

set_option maxRecDepth 100000
set_option maxHeartbeats 4000000
namespace PG
open PySem PySem.Spec PyProof.Rows L2 RT

def projH (g : Hp3) : Ray := (Rat.divInt (g.r * g.p) (dotI g g), Rat.divInt (g.r * g.q) (dotI g g))
def meetR (g k : Hp3) : Option Ray := if dt g k = 0 then none else some (Rat.divInt (g.r * k.q - k.r * g.q) (dt g k), Rat.divInt (g.p * k.r - k.p * g.r) (dt g k))
def cands (hs : List Hp3) : List Ray := (0, 0) :: hs.flatMap fun g => projH g :: hs.filterMap (meetR g)
theorem divI {a b : Int} : Rat.divInt a b = (a : Rat) / (b : Rat) := Rat.divInt_eq_div ..
theorem meet_of {g k : Hp3} {x : Ray} (h : dt g k ≠ 0) (h1 : valH g x = g.r) (h2 : valH k x = k.r) : meetR g k = some x := by
  unfold meetR
  rw [if_neg h]
  have hd : (dt g k : Rat) ≠ 0 := fun y => h (Rat.intCast_eq_zero_iff.mp y)
  have e := dt_cast g k
  rw [divI, divI, Rat.intCast_sub, Rat.intCast_sub, castI, castI, castI, castI, ← h1, ← h2]
  unfold valH
  generalize (dt g k : Rat) = d at *
  obtain ⟨x1, x2⟩ := x
  dsimp only
  congr 1
  refine Prod.ext ?_ ?_
  · dsimp only
    rw [e]
    rw [e] at hd
    grind
  · dsimp only
    rw [e]
    rw [e] at hd
    grind
theorem meet_val {g k : Hp3} {x : Ray} (h : meetR g k = some x) : dt g k ≠ 0 ∧ valH g x = g.r ∧ valH k x = k.r := by
  unfold meetR at h
  by_cases h0 : dt g k = 0
  · rw [if_pos h0] at h
    cases h
  · rw [if_neg h0] at h
    have hd : (dt g k : Rat) ≠ 0 := fun y => h0 (Rat.intCast_eq_zero_iff.mp y)
    have e := dt_cast g k
    cases h
    unfold valH
    dsimp only
    rw [divI, divI, Rat.intCast_sub, Rat.intCast_sub, castI, castI, castI, castI]
    generalize (dt g k : Rat) = d at *
    exact ⟨h0, by grind, by grind⟩
theorem proj_val {g : Hp3} (h : Dir g) : valH g (projH g) = g.r := by
  have hd := h.pos
  have e := dot_cast g g
  unfold valH projH
  dsimp only
  rw [divI, divI, castI, castI]
  generalize (dotI g g : Rat) = d at *
  grind
def along (y z : Ray) (t : Rat) : Ray := (y.1 + t * (z.1 - y.1), y.2 + t * (z.2 - y.2))
theorem val_along (g : Hp3) (y z : Ray) (t : Rat) : valH g (along y z t) = valH g y + t * (valH g z - valH g y) := by
  unfold valH along
  dsimp only
  grind
theorem segment {hs : List Hp3} {y z : Ray} (hy : Rg hs y) : Rg hs z ∨ ∃ t, 0 ≤ t ∧ t < 1 ∧ Rg hs (along y z t) ∧ ∃ k ∈ hs, valH k (along y z t) = k.r ∧ (k.r : Rat) < valH k z := by
  rcases exists_min (fun k : Hp3 => (k.r : Rat) < valH k z) (fun k => ((k.r : Rat) - valH k y) / (valH k z - valH k y)) hs with h | ⟨m, hm, pm, hmin⟩
  · exact .inl fun g hg => Rat.not_lt.mp (h g hg)
  · have ym := hy m hm
    have dm : 0 < valH m z - valH m y := by grind
    refine .inr ⟨((m.r : Rat) - valH m y) / (valH m z - valH m y), ?_, ?_, fun g hg => ?_, m, hm, ?_, pm⟩
    · rw [Rat.div_def]
      exact Rat.mul_nonneg (by grind) (Rat.le_of_lt (Rat.inv_pos.mpr dm))
    · refine Rat.lt_of_mul_lt_mul_left (c := valH m z - valH m y) ?_ (Rat.le_of_lt dm)
      have : (valH m z - valH m y) * (((m.r : Rat) - valH m y) / (valH m z - valH m y)) = (m.r : Rat) - valH m y := by
        generalize valH m z - valH m y = d at *
        grind
      rw [this]
      grind
    · have yg := hy g hg
      have t0 : 0 ≤ ((m.r : Rat) - valH m y) / (valH m z - valH m y) := by
        rw [Rat.div_def]
        exact Rat.mul_nonneg (by grind) (Rat.le_of_lt (Rat.inv_pos.mpr dm))
      have t1 : ((m.r : Rat) - valH m y) / (valH m z - valH m y) ≤ 1 := by
        refine of_mul_le (a := valH m z - valH m y) ?_ dm
        have : (valH m z - valH m y) * (((m.r : Rat) - valH m y) / (valH m z - valH m y)) = (m.r : Rat) - valH m y := by
          generalize valH m z - valH m y = d at *
          grind
        rw [this]
        grind
      rw [val_along]
      by_cases pg : (g.r : Rat) < valH g z
      · have dg : 0 < valH g z - valH g y := by grind
        have w := mul_le (hmin g hg pg) (Rat.le_of_lt dg)
        have : (valH g z - valH g y) * (((g.r : Rat) - valH g y) / (valH g z - valH g y)) = (g.r : Rat) - valH g y := by
          generalize valH g z - valH g y = d at *
          grind
        rw [this] at w
        grind
      · have pg' : valH g z ≤ (g.r : Rat) := Rat.not_lt.mp pg
        generalize ((m.r : Rat) - valH m y) / (valH m z - valH m y) = t at *
        have w1 := mul_le pg' t0
        have w2 := mul_le yg (show 0 ≤ 1 - t by grind)
        grind
    · rw [val_along]
      generalize valH m z = a at *
      generalize valH m y = b at *
      have : a - b ≠ 0 := by grind
      grind
theorem par_val {g k : Hp3} (hg : Dir g) (h0 : dt g k = 0) {x y : Ray} (h : valH g x = valH g y) : valH k x = valH k y := by
  have hd := hg.pos
  have e := dt_cast g k
  rw [h0] at e
  have z0 : ((0 : Int) : Rat) = 0 := rfl
  rw [z0] at e
  have e2 := dot_cast g g
  unfold valH at *
  generalize (dotI g g : Rat) = d at *
  generalize (g.p : Rat) = gp at *
  generalize (g.q : Rat) = gq at *
  generalize (k.p : Rat) = kp at *
  generalize (k.q : Rat) = kq at *
  -- d * (k x - k y) = (k g) (g x - g y)
  have e3 : d * ((kp * x.1 + kq * x.2) - (kp * y.1 + kq * y.2)) = (gp * kp + gq * kq) * ((gp * x.1 + gq * x.2) - (gp * y.1 + gq * y.2)) := by
    rw [e2]
    grind
  rw [h] at e3
  have e4 : d * ((kp * x.1 + kq * x.2) - (kp * y.1 + kq * y.2)) = 0 := by grind
  have := (Rat.mul_eq_zero.mp e4).resolve_left (by grind)
  grind
theorem line_cand {hs : List Hp3} {k : Hp3} (hk : Dir k) {w : Ray} (hw : Rg hs w) (hkw : valH k w = k.r) : Rg hs (projH k) ∨ ∃ j ∈ hs, ∃ x, meetR k j = some x ∧ Rg hs x := by
  rcases segment (z := projH k) hw with h | ⟨t, t0, t1, hx, j, hj, e1, e2⟩
  · exact .inl h
  · refine .inr ⟨j, hj, along w (projH k) t, meet_of (fun h0 => ?_) ?_ e1, hx⟩
    · have hv : valH k (along w (projH k) t) = valH k (projH k) := by
        rw [val_along, proj_val hk, hkw]
        grind
      have := par_val hk h0 hv
      grind
    · rw [val_along, proj_val hk, hkw]
      grind
theorem cand_of {hs : List Hp3} (hd : ∀ g ∈ hs, Dir g) {x : Ray} (hx : Rg hs x) : ∃ c ∈ cands hs, Rg hs c := by
  rcases segment (z := (0, 0)) hx with h | ⟨t, _, _, hw, k, hk, e1, _⟩
  · exact ⟨_, List.mem_cons_self, h⟩
  · rcases line_cand (hd k hk) hw e1 with h | ⟨j, hj, y, hm, hy⟩
    · exact ⟨_, List.mem_cons_of_mem _ (List.mem_flatMap.mpr ⟨k, hk, List.mem_cons_self⟩), h⟩
    · exact ⟨y, List.mem_cons_of_mem _ (List.mem_flatMap.mpr ⟨k, hk, List.mem_cons_of_mem _ (List.mem_filterMap.mpr ⟨j, hj, hm⟩)⟩), hy⟩
def pts (hs : List Hp3) : List Ray := (cands hs).filter fun x => hs.all (hasH x)
theorem all_has {hs : List Hp3} {x : Ray} : hs.all (hasH x) = true ↔ Rg hs x := by
  rw [List.all_eq_true]
  unfold hasH Rg
  simp only [decide_eq_true_eq]
end PG

set_option maxRecDepth 100000
set_option maxHeartbeats 4000000
namespace PG
open PySem PySem.Spec PyProof.Rows L2 RT
def Pl (g : Hp3) : Prop := Dir g ∧ g.p.natAbs ≤ 2 ∧ g.q.natAbs ≤ 2 ∧ g.r.natAbs ≤ 6
theorem log_le {z : Int} {n b : Nat} (h : z.natAbs ≤ n) (hb : n < 2 ^ (b + 1)) : z.natAbs.log2 ≤ b := by
  by_cases h0 : z.natAbs = 0
  · rw [h0]
    exact Nat.zero_le _
  · have := (Nat.log2_lt h0 (k := b + 1)).mpr (by omega)
    omega
theorem Pl.z {g : Hp3} (h : Pl g) : HZ 4 g := by
  obtain ⟨_, h1, h2, h3⟩ := h
  have a := log_le (b := 1) h1 (by decide)
  have b := log_le (b := 1) h2 (by decide)
  have c := log_le (b := 2) h3 (by decide)
  exact ⟨by omega, by omega, by omega⟩
theorem gcd3_pos {p q r : Int} (h : ¬ (p = 0 ∧ q = 0)) : 0 < gcd3 p q r := by
  unfold gcd3
  have : Int.gcd (Int.gcd p q : Int) r ≠ 0 := fun e => by
    have := (Int.gcd_eq_zero_iff.mp e).1
    have : Int.gcd p q = 0 := by omega
    exact h (Int.gcd_eq_zero_iff.mp this)
  omega
theorem gcd3_dvd (p q r : Int) : gcd3 p q r ∣ p ∧ gcd3 p q r ∣ q ∧ gcd3 p q r ∣ r := by
  unfold gcd3
  have h1 : (Int.gcd (Int.gcd p q : Int) r : Int) ∣ (Int.gcd p q : Int) := Int.gcd_dvd_left ..
  exact ⟨Int.dvd_trans h1 (Int.gcd_dvd_left ..), Int.dvd_trans h1 (Int.gcd_dvd_right ..), Int.gcd_dvd_right ..⟩
section
variable {ds : List Int} {i k : Nat} {st : List Cell} {Q : Vl → List Cell → Prop}
end
end PG

set_option maxRecDepth 100000
set_option maxHeartbeats 4000000
namespace PG
open PySem PySem.Spec PyProof.Rows L2 RT
theorem fr_int (z : Int) : Dt.tup [.int z, .int 1] = fr (z : Rat) := rfl
theorem Pl.zb {g : Hp3} (h : Pl g) : zb (g.p : Rat) ≤ 5 ∧ zb (g.q : Rat) ≤ 5 ∧ zb (g.r : Rat) ≤ 5 := by
  obtain ⟨a, b, c⟩ := h.z
  have := zb_int g.p
  have := zb_int g.q
  have := zb_int g.r
  omega
section
variable {st : List Cell} {Q : Vl → List Cell → Prop} {g k l : Hp3} {x : Ray} {n : Nat} {hs : List Hp3}
theorem Pl.ab (hg : Pl g) : g.p.natAbs ≤ 6 ∧ g.q.natAbs ≤ 6 ∧ g.r.natAbs ≤ 6 := by
  obtain ⟨_, a, b, c⟩ := hg
  omega
theorem divI_z {a d : Int} (h0 : d ≠ 0) (h1 : a.natAbs ≤ 1000) (h2 : d.natAbs ≤ 1000) : zb (Rat.divInt a d) ≤ 20 := by
  have := zb_divInt (n := a) h0
  have := log_le (b := 9) h1 (by decide)
  have := log_le (b := 9) h2 (by decide)
  omega
end
end PG

set_option maxRecDepth 100000
set_option maxHeartbeats 4000000
namespace PG
open PySem PySem.Spec PyProof.Rows L2 RT
section
variable {st : List Cell} {Q : Vl → List Cell → Prop} {g k l : Hp3} {x : Ray} {n : Nat} {hs : List Hp3}
end
end PG

set_option maxRecDepth 100000
set_option maxHeartbeats 4000000
namespace PG
open PySem PySem.Spec PyProof.Rows L2 RT
section
variable {st : List Cell} {Q : Vl → List Cell → Prop} {g k l : Hp3} {x : Ray} {n : Nat} {hs : List Hp3}
end
end PG

set_option maxRecDepth 100000
set_option maxHeartbeats 4000000
namespace PG
open PySem PySem.Spec PyProof.Rows L2 RT
section
variable {st : List Cell} {Q : Vl → List Cell → Prop} {hs : List Hp3} {n : Nat}
end

end PG

set_option maxRecDepth 100000
set_option maxHeartbeats 4000000
namespace PG
open PySem PySem.Spec PyProof.Rows L2 RT

structure Sw (k W : Nat) (d : Dt) : Prop where
  shw : (toPy d).showable = true
  itg : (toPy d).intsShort 13 = true
  lay : (toPy d).canLay0 = true
  dep : (toPy d).depth ≤ k
  wt : (toPy d).weight ≤ W
theorem Sw.shows {k W : Nat} {d : Dt} (h : Sw k W d) (hk : k ≤ 60) (hW : W ≤ 1000000) : shows d := by
  refine ⟨h.shw, Nat.le_trans h.dep hk, ?_⟩
  have hl : PyData.layable0 (toPy d) = true := by
    unfold PyData.layable0
    rw [h.lay, decide_eq_true (show (toPy d).depth ≤ 64 by have := h.dep; omega), decide_eq_true (show (toPy d).weight ≤ 2 ^ 20 by have := h.wt; omega)]
    rfl
  exact PyData.shown_fits_of_layable0 (B := 13) (by decide) (by decide) hl h.itg

def Pg (g : Hp3) : Prop := Dir g ∧ gcd3 g.p g.q g.r = 1 ∧ g.p.natAbs ≤ 1000000 ∧ g.q.natAbs ≤ 1000000 ∧ g.r.natAbs ≤ 1000000
theorem Pg.z {g : Hp3} (h : Pg g) : HZ 30 g := by
  obtain ⟨_, _, h1, h2, h3⟩ := h
  have a := log_le (b := 20) h1 (by decide)
  have b := log_le (b := 20) h2 (by decide)
  have c := log_le (b := 20) h3 (by decide)
  exact ⟨by omega, by omega, by omega⟩
end PG

set_option maxRecDepth 100000
set_option maxHeartbeats 4000000
namespace PG
open PySem PySem.Spec PyProof.Rows L2 RT

end PG

set_option maxRecDepth 100000
set_option maxHeartbeats 4000000
namespace PG
open PySem PySem.Spec PyProof.Rows L2 RT

def half : Rat := Rat.divInt 1 2
end PG

set_option maxRecDepth 100000
set_option maxHeartbeats 4000000
namespace PG
open PySem PySem.Spec PyProof.Rows L2 RT
section
variable {st : List Cell} {Q : Vl → List Cell → Prop} {hs : List Hp3} {n : Nat} {g k : Hp3} {x : Ray}
theorem meet_zn (hg : HZ n g) (hk : HZ n k) (h : meetR g k = some x) : zb x.1 ≤ 2 * n + 2 ∧ zb x.2 ≤ 2 * n + 2 := by
  have d0 := dt_z hg hk
  obtain ⟨g1, g2, g3⟩ := hg
  obtain ⟨k1, k2, k3⟩ := hk
  unfold meetR at h
  by_cases c : dt g k = 0
  · rw [if_pos c] at h
    cases h
  · rw [if_neg c] at h
    cases h
    have a1 := lgm (n := n) (m := n) g3 k2
    have a2 := lgm (n := n) (m := n) k3 g2
    have a3 := lgs (n := 2 * n - 3) (a := g.r * k.q) (b := k.r * g.q) (by omega) (by omega)
    have b1 := lgm (n := n) (m := n) g1 k3
    have b2 := lgm (n := n) (m := n) k1 g3
    have b3 := lgs (n := 2 * n - 3) (a := g.p * k.r) (b := k.p * g.r) (by omega) (by omega)
    have c1 := zb_divInt (n := g.r * k.q - k.r * g.q) c
    have c2 := zb_divInt (n := g.p * k.r - k.p * g.r) c
    dsimp only
    omega
end
end PG

set_option maxRecDepth 100000
set_option maxHeartbeats 4000000
namespace PG
open PySem PySem.Spec PyProof.Rows L2 RT
section
variable {st : List Cell} {Q : Vl → List Cell → Prop} {g k : Hp3}
theorem Pg.ab (h : Pg g) : g.p.natAbs ≤ 10000000 ∧ g.q.natAbs ≤ 10000000 ∧ g.r.natAbs ≤ 10000000 ∧ 0 < n1 g ∧ (n1 g).natAbs ≤ 10000000 := by
  have := n1_pos h.1
  obtain ⟨_, _, a, b, c⟩ := h
  unfold n1 at *
  rw [ab_nat, ab_nat] at *
  omega
end
end PG

set_option maxRecDepth 100000
set_option maxHeartbeats 4000000
namespace PG
open PySem PySem.Spec PyProof.Rows L2 RT
section
variable {st : List Cell} {Q : Vl → List Cell → Prop}
end
end PG

set_option maxRecDepth 100000
set_option maxHeartbeats 4000000
namespace PG
open PySem PySem.Spec PyProof.Rows L2 RT
theorem num_le {n d : Int} : (Rat.divInt n d).num.natAbs ≤ n.natAbs := by
  rw [Rat.num_divInt]
  have : (d.sign * n / (d.gcd n : Int)).natAbs ≤ (d.sign * n).natAbs := Int.natAbs_ediv_le_natAbs ..
  rw [Int.natAbs_mul] at this
  have h2 : d.sign.natAbs ≤ 1 := by
    rcases Int.lt_trichotomy d 0 with h | h | h
    · rw [Int.sign_eq_neg_one_of_neg h]
      decide
    · rw [h]
      decide
    · rw [Int.sign_eq_one_of_pos h]
      decide
  have := Nat.mul_le_mul_right n.natAbs h2
  omega
theorem den_le {n d : Int} (hd : d ≠ 0) : (Rat.divInt n d).den ≤ d.natAbs := by
  rw [Rat.den_divInt, if_neg hd]
  exact Nat.div_le_self ..
def Fr (r : Rat) : Prop := ∃ n d : Int, r = Rat.divInt n d ∧ 0 < d ∧ d ≤ 3 ∧ n.natAbs ≤ 30
theorem Fr.nd {r : Rat} : Fr r → r.num.natAbs ≤ 30 ∧ r.den ≤ 3 := fun ⟨n, d, e, h1, h2, h3⟩ => by
  rw [e]
  have := num_le (n := n) (d := d)
  have := den_le (n := n) (d := d) (by omega)
  omega
theorem gcd3_div {x y z : Int} (h : ¬ (x = 0 ∧ y = 0)) : gcd3 (x / gcd3 x y z) (y / gcd3 x y z) (z / gcd3 x y z) = 1 := by
  have g0 := gcd3_pos (r := z) h
  obtain ⟨d1, d2, d3⟩ := gcd3_dvd x y z
  obtain ⟨d, ed⟩ : ∃ d, gcd3 x y z = d := ⟨_, rfl⟩
  rw [ed] at d1 d2 d3 g0 ⊢
  obtain ⟨x', rfl⟩ := d1
  obtain ⟨y', rfl⟩ := d2
  obtain ⟨z', rfl⟩ := d3
  rw [Int.mul_ediv_cancel_left _ (by omega), Int.mul_ediv_cancel_left _ (by omega), Int.mul_ediv_cancel_left _ (by omega)]
  unfold gcd3 at ed ⊢
  rw [Int.gcd_mul_left] at ed
  have e2 : (Int.gcd (((d.natAbs * Int.gcd x' y' : Nat) : Int)) (d * z') : Int) = d.natAbs * (Int.gcd (Int.gcd x' y' : Int) z' : Int) := by
    have : ((d.natAbs * Int.gcd x' y' : Nat) : Int) = d * (Int.gcd x' y' : Int) := by
      rw [Int.natCast_mul]
      congr 1
      omega
    rw [this, Int.gcd_mul_left, Int.natCast_mul]
  rw [e2] at ed
  have hd : (d.natAbs : Int) = d := by omega
  rw [hd] at ed
  have : d * (Int.gcd (Int.gcd x' y' : Int) z' : Int) = d * 1 := by omega
  exact Int.eq_of_mul_eq_mul_left (by omega) this
section
variable {st : List Cell} {Q : Vl → List Cell → Prop}
end
end PG

set_option maxRecDepth 100000
set_option maxHeartbeats 4000000
namespace PG
open PySem PySem.Spec PyProof.Rows L2 RT
theorem Fr.zb {r : Rat} (h : Fr r) : zb r ≤ 20 := by
  obtain ⟨n, d, rfl, h1, h2, h3⟩ := h
  exact divI_z (by omega) (by omega) (by omega)
section
variable {st : List Cell} {Q : Vl → List Cell → Prop}
end
end PG

set_option maxRecDepth 100000
set_option maxHeartbeats 4000000
namespace PG
open PySem PySem.Spec PyProof.Rows L2 RT

theorem f4_pn {r : Rat} : (∃ n d : Int, r = Rat.divInt n d ∧ 0 < d ∧ d ≤ 3 ∧ n.natAbs ≤ 4) → Pn r := fun ⟨n, d, e, h1, h2, h3⟩ => ⟨n, d.toNat, by rw [e]; congr 1; omega, by omega, by omega, by omega⟩
section
variable {ds : List Int} {i k : Nat} {st : List Cell} {Q : Vl → List Cell → Prop}
end
end PG

set_option maxRecDepth 100000
set_option maxHeartbeats 4000000
namespace PG
open PySem PySem.Spec PyProof.Rows L2 RT
def Ez (n : Nat) : El → Prop
  | .gap g => zb g ≤ n
  | .lens p c => zb p ≤ n ∧ zb c ≤ n
  | .prism d => zb d ≤ n
  | .afocal m => zb m ≤ n ∧ m ≠ 0
  | .stop _ _ => True
section
variable {st : List Cell} {Q : Vl → List Cell → Prop}
end
end PG

set_option maxRecDepth 100000
set_option maxHeartbeats 4000000
namespace PG
open PySem PySem.Spec PyProof.Rows L2 RT
section
variable {ds : List Int} {i k : Nat} {st : List Cell} {Q : Vl → List Cell → Prop}
end
end PG

set_option maxRecDepth 100000
set_option maxHeartbeats 4000000
namespace PG
open PySem PySem.Spec PyProof.Rows L2 RT

end PG

set_option maxRecDepth 100000
set_option maxHeartbeats 4000000
namespace PG
open PySem PySem.Spec PyProof.Rows L2 RT
section
variable {st : List Cell} {Q : Vl → List Cell → Prop}
end
end PG

set_option maxRecDepth 100000
set_option maxHeartbeats 4000000
namespace PG
open PySem PySem.Spec PyProof.Rows L2 RT

structure Sx (k W : Nat) (d : Dt) : Prop where
  shw : (toPy d).showable = true
  itg : (toPy d).intsShort 250 = true
  lay : (toPy d).canLay0 = true
  dep : (toPy d).depth ≤ k
  wt : (toPy d).weight ≤ W
theorem Sx.le {k W k' W' : Nat} {d : Dt} (h : Sx k W d) (h1 : k ≤ k') (h2 : W ≤ W') : Sx k' W' d := ⟨h.shw, h.itg, h.lay, Nat.le_trans h.dep h1, Nat.le_trans h.wt h2⟩
theorem Sx.shows {k W : Nat} {d : Dt} (h : Sx k W d) (hk : k ≤ 60) (hW : W ≤ 60000) : shows d := by
  refine ⟨h.shw, Nat.le_trans h.dep hk, ?_⟩
  have h2 := PyData.shown_le 250 (by decide) (toPy d) (PyData.leavesShort_of_canLay0 250 (toPy d) h.lay h.itg)
  have := h.wt
  show (toPy d).shown.length ≤ 16777216
  omega
end PG

set_option maxRecDepth 100000
set_option maxHeartbeats 4000000

namespace PG
open PySem PySem.Spec PyProof.Rows L2 RT
section
variable {x y : Rat} {st : List Cell} {Q : Vl → List Cell → Prop}
theorem lfrac2_ok {n d : Int} (hd : d ≠ 0) (h : Q (.d (fr (Rat.divInt n d))) st) : sp__law_frac_2 [.d (.int n), .d (.int d)] st Q := by
  unfold sp__law_frac_2
  have hg : (Int.gcd n d : Int) ≠ 0 := by
    have : Int.gcd n d ≠ 0 := fun e => hd (Int.gcd_eq_zero_iff.mp e).2
    omega
  have hn : (Int.gcd n d : Int) ∣ n := Int.gcd_dvd_left ..
  have hd' : (Int.gcd n d : Int) ∣ d := Int.gcd_dvd_right ..
  have e1 : (Rat.divInt n d).num = d.sign * n / Int.gcd n d := by rw [Rat.num_divInt, Int.gcd_comm]
  have e2 : (((Rat.divInt n d).den : Nat) : Int) = d.sign * d / Int.gcd n d := by
    rw [Rat.den_divInt, if_neg hd, Int.natCast_ediv, Int.gcd_comm, sign_self]
  have fin : ∀ s : Int, (s = 1 ∨ s = -1) → s = d.sign → s * (Int.gcd n d : Int) ≠ 0 ∧ s * (Int.gcd n d : Int) ≠ 0 ∧ Q (.d (.tup [.int (n.fdiv (s * Int.gcd n d)), .int (d.fdiv (s * Int.gcd n d))])) st := fun s hs e => by
    refine ⟨by rcases hs with rfl | rfl <;> omega, by rcases hs with rfl | rfl <;> omega, ?_⟩
    rw [sgn_div hg hn hs, sgn_div hg hd' hs, e, ← e1, ← e2]
    exact h
  refine ⟨rfl, ?_⟩
  refine seq_to ⟨[some (.d (.int n)), some (.d (.int d)), some (.d (.int n.natAbs)), none], st⟩ (fun K hK => by rw [← abs_eq n] at hK; exact hK) ?_
  refine seq_to ⟨[some (.d (.int n)), some (.d (.int d)), some (.d (.int n.natAbs)), some (.d (.int d.natAbs))], st⟩ (fun K hK => by rw [← abs_eq d] at hK; exact hK) ?_
  refine seq_to ⟨[some (.d (.int n)), some (.d (.int d)), some (.d (.int (Int.gcd n d : Int))), some (.d (.int 0))], st⟩ (fun K hK => ?_) ?_
  · refine ⟨fun k m => ∃ x y : Nat, m = ⟨[some (.d (.int n)), some (.d (.int d)), some (.d (.int x)), some (.d (.int y))], st⟩ ∧ k = y ∧ Nat.gcd x y = Int.gcd n d, ⟨d.natAbs, n.natAbs, d.natAbs, rfl, rfl, rfl⟩, ?_⟩
    rintro y m ⟨x, _, rfl, rfl, hgc⟩
    refine ⟨trivial, ?_⟩
    show if (decide ((0 : Int) < y)) = true then _ else _
    by_cases hy : (0 : Int) < y
    · rw [if_pos (decide_eq_true hy)]
      refine ⟨by omega, ?_⟩
      refine ⟨x % y, Nat.mod_lt _ (by omega), y, x % y, ?_, rfl, ?_⟩
      · rw [Int.natCast_emod, ← Int.fmod_eq_emod_of_nonneg _ (by omega)]
        rfl
      · rw [← hgc, Nat.gcd_comm x y, Nat.gcd_rec y x, Nat.gcd_comm]
    · rw [if_neg (by simp; omega)]
      have e : y = 0 := by omega
      subst e
      rw [Nat.gcd_zero_right] at hgc
      rw [← hgc] at hK
      exact hK
  refine ⟨trivial, ?_⟩
  show if (decide (d < 0)) = true then _ else _
  by_cases hs : d < 0
  · rw [if_pos (decide_eq_true hs)]
    obtain ⟨a, b, c⟩ := fin (-1) (.inr rfl) (Int.sign_eq_neg_one_of_neg hs).symm
    rw [Int.neg_one_mul] at a b c
    exact ⟨a, b, lineN rfl, tk c⟩
  · rw [if_neg (by simp; omega)]
    obtain ⟨a, b, c⟩ := fin 1 (.inl rfl) (Int.sign_eq_one_of_pos (by omega)).symm
    rw [Int.one_mul] at a b c
    exact ⟨a, b, lineN rfl, tk c⟩
theorem ladd3_ok (hz : zb x + zb y < ZM) (h : Q (.d (fr (x + y))) st) : sp__law_add_3 [.d (fr x), .d (fr y)] st Q := by
  unfold sp__law_add_3
  refine ⟨rfl, mk_nn (zb_num x) (dn y) hz, mk_nn (zb_num y) (dn x) (by omega), mk_nn (dn x) (dn y) hz, ?_⟩
  refine lfrac2_ok (mul_nn x y) (tk ?_)
  rw [← add_val]
  exact h
theorem lsub3_ok (hz : zb x + zb y < ZM) (h : Q (.d (fr (x - y))) st) : sp__law_sub_3 [.d (fr x), .d (fr y)] st Q := by
  unfold sp__law_sub_3
  refine ⟨rfl, lneg_ok ?_⟩
  refine ladd3_ok (by rw [zb_neg]; exact hz) (tk ?_)
  rw [← Rat.sub_eq_add_neg]
  exact h
theorem lmul3_ok (hz : zb x + zb y < ZM) (h : Q (.d (fr (x * y))) st) : sp__law_mul_3 [.d (fr x), .d (fr y)] st Q := by
  unfold sp__law_mul_3
  refine ⟨rfl, mk_nn (zb_num x) (zb_num y) hz, mk_nn (dn x) (dn y) hz, ?_⟩
  refine lfrac2_ok (mul_nn x y) (tk ?_)
  rw [← mul_val]
  exact h
theorem ldiv2_ok (hy : y ≠ 0) (hz : zb x + zb y < ZM) (h : Q (.d (fr (x / y))) st) : sp__law_div_2 [.d (fr x), .d (fr y)] st Q := by
  unfold sp__law_div_2
  refine ⟨rfl, mk_nn (zb_num x) (dn y) hz, mk_nn (dn x) (zb_num y) hz, ?_⟩
  refine lfrac2_ok (Int.mul_ne_zero (den_pos x) (num_nz hy)) (tk ?_)
  rw [← div_val x hy]
  exact h
end
section
variable {ds : List Int} {i k : Nat} {st : List Cell} {Q : Vl → List Cell → Prop}
theorem lfraction5_ok {ds : List Int} {i k : Nat} (hk : st[k]? = some (Bx ds i)) (hi : i < 900000) (h : ∀ r : Rat, (∃ n d : Int, r = Rat.divInt n d ∧ 0 < d ∧ d ≤ 3 ∧ n.natAbs ≤ 4) → Q (.d (fr r)) (st.set k (Bx ds (i + 2)))) : sp__law_fraction_2 [.c k] st Q := by
  have hlt : k < st.length := (List.getElem?_eq_some_iff.mp hk).1
  have hs : ∀ c : Cell, (st.set k c)[k]? = some c := fun c => by simp [hlt]
  have hl : ∀ c : Cell, (st.set k c).length = st.length := fun c => List.length_set
  unfold sp__law_fraction_2
  refine ⟨rfl, draw2_ok hk (by decide) (by omega) fun a a0 a1 => ⟨trivial, slt rfl, ?_⟩⟩
  refine draw2_ok (hs _) (by decide) (by omega) fun b b0 b1 => ?_
  rw [List.set_set]
  have hb : ∃ d : Int, atI [Dt.int 1, .int 1, .int 2, .int 3] b = some (.int d) ∧ 0 < d ∧ d ≤ 3 := by
    have : b = 0 ∨ b = 1 ∨ b = 2 ∨ b = 3 := by omega
    rcases this with rfl | rfl | rfl | rfl
    · exact ⟨1, rfl, by decide, by decide⟩
    · exact ⟨1, rfl, by decide, by decide⟩
    · exact ⟨2, rfl, by decide, by decide⟩
    · exact ⟨3, rfl, by decide, by decide⟩
  obtain ⟨d, e, d0, d1⟩ := hb
  refine rIx_mk e ?_
  refine lfrac2_ok (by omega) ?_
  rw [← hl (Bx ds (i + 2))]
  exact tk (h _ ⟨a - 4, d, rfl, d0, d1, by omega⟩)
theorem frac3_ok (hk : st[k]? = some (Bx ds i)) (hi : i < 900000) (h : ∀ r : Rat, Pn r → Q (.d (fr r)) (st.set k (Bx ds (i + 2)))) : sp__law_fraction_2 [.c k] st Q :=
  lfraction5_ok hk hi fun r hr => h r (f4_pn hr)
theorem f4_inv {r : Rat} (h0 : r ≠ 0) : (∃ n d : Int, r = Rat.divInt n d ∧ 0 < d ∧ d ≤ 3 ∧ n.natAbs ≤ 4) → Pn r⁻¹ := fun ⟨n, d, e, h1, h2, h3⟩ => by
  have hn : n ≠ 0 := fun z => h0 (by rw [e, z, Rat.zero_divInt])
  rw [e, inv_divInt]
  by_cases c : 0 < n
  · exact ⟨d, n.toNat, by congr 1; omega, by omega, by omega, by omega⟩
  · refine ⟨-d, (-n).toNat, ?_, by omega, by omega, by omega⟩
    have : (((-n).toNat : Nat) : Int) = -n := by omega
    rw [this, Rat.divInt_neg', Int.neg_neg]
theorem nonzero2_ok (hk : st[k]? = some (Bx ds i)) (hi : i < 900000) (h : ∀ r : Rat, Pn r → r ≠ 0 → Pn r⁻¹ → Q (.d (fr r)) (st.set k (Bx ds (i + 2)))) : sp__law_nonzero_2 [.c k] st Q := by
  have hl : ∀ c : Cell, (st.set k c).length = st.length := fun c => List.length_set
  unfold sp__law_nonzero_2
  refine ⟨rfl, lfraction5_ok hk hi fun r hr => ?_⟩
  let S : M := ⟨[some (.c k), some (.d (fr r))], st.set k (Bx ds (i + 2))⟩
  have tk' : ∀ {v : Vl}, Q v (st.set k (Bx ds (i + 2))) → Q v ((st.set k (Bx ds (i + 2))).take st.length) := fun {v} q => by
    rw [← hl (Bx ds (i + 2))]
    exact tk q
  dsimp only
  by_cases c : r = 0
  · refine ifs_t S (fun K hK => ⟨rfl, rfl, ?_⟩) ⟨lineN rfl, tk' (h (Rat.divInt 1 2) pn_half (by decide) ⟨2, 1, by decide +kernel, by decide, by decide, by decide⟩)⟩
    show K (eqD (.int r.num) (.int 0)) _
    rw [eqD_int, decide_eq_true (Rat.num_eq_zero.mpr c)]
    exact hK
  · refine guard_st S (fun K hK => ⟨rfl, rfl, ?_⟩) (tk' (h r (f4_pn hr) c (f4_inv c hr)))
    show K (eqD (.int r.num) (.int 0)) _
    rw [eqD_int, decide_eq_false (fun z => c (Rat.num_eq_zero.mp z))]
    exact hK
theorem stop3_ok (hk : st[k]? = some (Bx ds i)) (hi : i < 800000) (h : ∀ (lo hi : Option Rat), ElIn (.stop lo hi) → Q (.d (elD (.stop lo hi))) (st.set k (Bx ds (i + 4)))) : sp__law_stop_3 [.c k] st Q := by
  have hlt : k < st.length := (List.getElem?_eq_some_iff.mp hk).1
  have hs : ∀ c : Cell, (st.set k c)[k]? = some c := fun c => by simp [hlt]
  have hl : ∀ c : Cell, (st.set k c).length = st.length := fun c => List.length_set
  have tk' : ∀ {v : Vl} {c : Cell}, Q v (st.set k c) → Q v ((st.set k c).take st.length) := fun {v c} q => by
    rw [← hl c]
    exact tk q
  unfold sp__law_stop_3
  refine ⟨rfl, frac3_ok hk (by omega) fun l hl1 => ?_⟩
  refine draw2_ok (hs _) (by decide) (by omega) fun a a0 a1 => ?_
  rw [List.set_set]
  refine lfrac2_ok (by decide) ?_
  have hd : In 12 6 (Rat.divInt a 2) := in_div (d := 2) (by decide) ⟨6, rfl⟩ (by omega)
  have zd := in_zb (b := 7) (by decide) hd (by decide) (by decide) (by decide)
  refine ladd3_ok (x := l) (y := Rat.divInt a 2) (zm (by have := hl1.zb; omega)) ?_
  have hu : In 12 12 (l + Rat.divInt a 2) := in_add hl1.in_ hd
  have hl12 : In 12 12 l := in_le (by decide) hl1.in_
  generalize l + Rat.divInt a 2 = u at hu
  refine draw2_ok (hs _) (by decide) (by omega) fun w w0 w1 => ?_
  rw [List.set_set]
  let S : M := ⟨[some (.c k), some (.d (fr l)), some (.d (fr u)), some (.d (.int w))], st.set k (Bx ds (i + 4))⟩
  dsimp only
  by_cases c0 : w = 0
  · refine ifs_t S (fun K hK => ⟨rfl, rfl, ?_⟩) ⟨lineN rfl, tk' (h none (some u) ⟨(fun q e => nomatch e), fun q e => by cases e; exact hu⟩)⟩
    show K (eqD (.int w) (.int 0)) _
    rw [eqD_int, decide_eq_true c0]
    exact hK
  refine guard_st S (fun K hK => ⟨rfl, rfl, ?_⟩) ?_
  · show K (eqD (.int w) (.int 0)) _
    rw [eqD_int, decide_eq_false c0]
    exact hK
  by_cases c1 : w = 1
  · refine ifs_t S (fun K hK => ⟨rfl, rfl, ?_⟩) ⟨lineN rfl, tk' (h (some l) none ⟨fun q e => by cases e; exact hl12, (fun q e => nomatch e)⟩)⟩
    show K (eqD (.int w) (.int 1)) _
    rw [eqD_int, decide_eq_true c1]
    exact hK
  refine guard_st S (fun K hK => ⟨rfl, rfl, ?_⟩) ⟨lineN rfl, tk' (h (some l) (some u) ⟨fun q e => by cases e; exact hl12, fun q e => by cases e; exact hu⟩)⟩
  show K (eqD (.int w) (.int 1)) _
  rw [eqD_int, decide_eq_false c1]
  exact hK
theorem element3_ok (hk : st[k]? = some (Bx ds i)) (hi : i < 700000) (h : ∀ (e : El) (j : Nat), ElIn e → j ≤ i + 6 → Q (.d (elD e)) (st.set k (Bx ds j))) : sp__law_element_3 [.c k] st Q := by
  have hlt : k < st.length := (List.getElem?_eq_some_iff.mp hk).1
  have hs : ∀ c : Cell, (st.set k c)[k]? = some c := fun c => by simp [hlt]
  have hl : ∀ c : Cell, (st.set k c).length = st.length := fun c => List.length_set
  have tk' : ∀ {v : Vl} {c : Cell}, Q v (st.set k c) → Q v ((st.set k c).take st.length) := fun {v c} q => by
    rw [← hl c]
    exact tk q
  unfold sp__law_element_3
  refine ⟨rfl, draw2_ok hk (by decide) (by omega) fun w w0 w1 => ?_⟩
  let S : M := ⟨[some (.c k), some (.d (.int w))], st.set k (Bx ds (i + 1))⟩
  dsimp only
  by_cases c0 : w < 2
  · refine ifs_t S (fun K hK => ⟨trivial, ?_⟩) ?_
    · show K (decide (w < 2)) _
      rw [decide_eq_true c0]
      exact hK
    refine frac3_ok (hs _) (by omega) fun g hg => ?_
    rw [List.set_set]
    exact ⟨lineN rfl, tk' (h (.gap g) _ hg (by omega))⟩
  refine guard_st S (fun K hK => ⟨trivial, ?_⟩) ?_
  · show K (decide (w < 2)) _
    rw [decide_eq_false c0]
    exact hK
  by_cases c2 : w < 4
  · refine ifs_t S (fun K hK => ⟨trivial, ?_⟩) ?_
    · show K (decide (w < 4)) _
      rw [decide_eq_true c2]
      exact hK
    refine frac3_ok (hs _) (by omega) fun p hp => ?_
    rw [List.set_set]
    refine ⟨lineN rfl, ?_⟩
    refine frac3_ok (hs _) (by omega) fun c hc => ?_
    rw [List.set_set]
    refine ⟨slt rfl, ?_⟩
    refine draw2_ok (hs _) (by decide) (by omega) fun b b0 b1 => ?_
    rw [List.set_set]
    obtain ⟨z, e, hz⟩ := idx2 pn_zero hc b b0 b1
    refine rIx_mk e ?_
    exact ⟨lineN rfl, tk' (h (.lens p z) _ ⟨hp, hz⟩ (by omega))⟩
  refine guard_st S (fun K hK => ⟨trivial, ?_⟩) ?_
  · show K (decide (w < 4)) _
    rw [decide_eq_false c2]
    exact hK
  by_cases c3 : w = 4
  · refine ifs_t S (fun K hK => ⟨rfl, rfl, ?_⟩) ?_
    · show K (eqD (.int w) (.int 4)) _
      rw [eqD_int, decide_eq_true c3]
      exact hK
    refine frac3_ok (hs _) (by omega) fun g hg => ?_
    rw [List.set_set]
    exact ⟨lineN rfl, tk' (h (.prism g) _ hg (by omega))⟩
  refine guard_st S (fun K hK => ⟨rfl, rfl, ?_⟩) ?_
  · show K (eqD (.int w) (.int 4)) _
    rw [eqD_int, decide_eq_false c3]
    exact hK
  by_cases c4 : w = 5
  · refine ifs_t S (fun K hK => ⟨rfl, rfl, ?_⟩) ?_
    · show K (eqD (.int w) (.int 5)) _
      rw [eqD_int, decide_eq_true c4]
      exact hK
    refine nonzero2_ok (hs _) (by omega) fun g hg hn _ => ?_
    rw [List.set_set]
    exact ⟨lineN rfl, tk' (h (.afocal g) _ ⟨hg, hn⟩ (by omega))⟩
  refine guard_st S (fun K hK => ⟨rfl, rfl, ?_⟩) ?_
  · show K (eqD (.int w) (.int 5)) _
    rw [eqD_int, decide_eq_false c4]
    exact hK
  refine stop3_ok (hs _) (by omega) fun lo hi he => ?_
  rw [List.set_set]
  exact tk' (h (.stop lo hi) _ he (by omega))
theorem train3_ok {n : Nat} (hn : n ≤ 100) (hk : st[k]? = some (Bx ds i)) (hi : i < 100000) (h : ∀ (es : List El) (j : Nat), es.length ≤ n → (∀ e ∈ es, ElIn e) → j ≤ i + 1 + 6 * n → Q (.d (.lst (es.map elD))) (st.set k (Bx ds j))) : sp__law_train_3 [.c k, .d (.int n)] st Q := by
  have hlt : k < st.length := (List.getElem?_eq_some_iff.mp hk).1
  have hs : ∀ c : Cell, (st.set k c)[k]? = some c := fun c => by simp [hlt]
  have hl : ∀ c : Cell, (st.set k c).length = st.length := fun c => List.length_set
  have tk' : ∀ {v : Vl} {c : Cell}, Q v (st.set k c) → Q v ((st.set k c).take st.length) := fun {v c} q => by
    rw [← hl c]
    exact tk q
  unfold sp__law_train_3
  refine ⟨rfl, draw2_ok hk (by omega) (by omega) fun r r0 r1 => ?_⟩
  refine ⟨⟨by omega, by omega⟩, ?_⟩
  refine lc_inv (lk := none) elD (fun r acc st' => ∃ j, st' = st.set k (Bx ds j) ∧ acc.length + r.length ≤ n ∧ j ≤ i + 1 + 6 * acc.length ∧ ∀ e ∈ acc, ElIn e) (fun _ _ _ _ => trivial) ?_ ?_ ?_ _ [] _ ⟨i + 1, rfl, by
    rw [rangeD_len, List.length_nil]
    omega, Nat.le_refl _, fun e he => nomatch he⟩
  · rintro x r acc st' ⟨j, rfl, hlen, _, _⟩
    rw [List.length_cons] at hlen
    exact small_lt (by omega)
  · rintro x r acc st' P ⟨j, rfl, hlen, hj, ha⟩ hP
    rw [List.length_cons] at hlen
    refine element3_ok (hs _) (by omega) fun e j' he hj' => ?_
    rw [List.set_set]
    refine hP e ⟨_, _⟩ ⟨j', rfl, ?_, ?_, fun e' he' => ?_⟩
    · rw [List.length_append, List.length_singleton]
      omega
    · rw [List.length_append, List.length_singleton]
      omega
    · rcases List.mem_append.mp he' with h | h
      · exact ha e' h
      · rw [List.mem_singleton] at h
        rw [h]
        exact he
  · rintro acc st' ⟨j, rfl, hlen, hj, ha⟩
    have hal : acc.length ≤ n := by simpa using hlen
    exact tk' (h acc j hal ha (by omega))
end
section
variable {st : List Cell} {Q : Vl → List Cell → Prop}
theorem lgo3_ok {n k : Nat} {e : El} {r : Ray} (he : Ez n e) (hk : 2 * n ≤ k) (h1 : zb r.1 ≤ k) (h2 : zb r.2 ≤ k) (hn : k ≤ 10000000) (h : Q (.d (rayD (behind e r))) st) : sp__law_go_3 [.d (elD e), .d (rayD r)] st Q := by
  unfold sp__law_go_3
  refine ⟨rfl, ?_⟩
  let S : M := ⟨[some (.d (elD e)), some (.d (rayD r)), some (.d (fr r.1)), some (.d (fr r.2))], st⟩
  refine seq_to S (fun K hK => ⟨rfl, hK⟩) ?_
  cases e with
  | gap g =>
    have he : zb g ≤ n := he
    have a := zb_mul g r.2
    refine ⟨s_gap, s_gap, str_eq ?_⟩
    refine lmul3_ok (x := g) (y := r.2) (zm (by omega)) ?_
    exact ladd3_ok (x := r.1) (y := g * r.2) (zm (by omega)) ⟨lineN rfl, tk h⟩
  | lens p c =>
    obtain ⟨h3, h4⟩ := he
    have a := zb_sub r.1 c
    have b := zb_mul p (r.1 - c)
    refine ⟨s_lens, s_gap, str_ne ne_lg ?_⟩
    refine ⟨s_lens, s_lens, str_eq ?_⟩
    refine lsub3_ok (x := r.1) (y := c) (zm (by omega)) ?_
    refine lmul3_ok (x := p) (y := r.1 - c) (zm (by omega)) ?_
    exact lsub3_ok (x := r.2) (y := p * (r.1 - c)) (zm (by omega)) ⟨lineN rfl, tk h⟩
  | prism d =>
    have he : zb d ≤ n := he
    refine ⟨s_prism, s_gap, str_ne ne_pg ?_⟩
    refine ⟨s_prism, s_lens, str_ne ne_pl ?_⟩
    refine ⟨s_prism, s_prism, str_eq ?_⟩
    exact ladd3_ok (x := r.2) (y := d) (zm (by omega)) ⟨lineN rfl, tk h⟩
  | afocal m =>
    obtain ⟨h3, h4⟩ := he
    refine ⟨s_afocal, s_gap, str_ne ne_ag ?_⟩
    refine ⟨s_afocal, s_lens, str_ne ne_al ?_⟩
    refine ⟨s_afocal, s_prism, str_ne ne_ap ?_⟩
    refine ⟨s_afocal, s_afocal, str_eq ?_⟩
    refine lmul3_ok (x := m) (y := r.1) (zm (by omega)) ?_
    refine ldiv2_ok (x := r.2) (y := m) h4 (zm (by omega)) ?_
    rw [Rat.div_def]
    exact ⟨lineN rfl, tk h⟩
  | stop lo hi =>
    refine ⟨s_stop, s_gap, str_ne ne_sg ?_⟩
    refine ⟨s_stop, s_lens, str_ne ne_sl ?_⟩
    refine ⟨s_stop, s_prism, str_ne ne_sp ?_⟩
    refine ⟨s_stop, s_afocal, str_ne ne_sa ?_⟩
    exact tk h
end
end PG

set_option maxRecDepth 100000
set_option maxHeartbeats 4000000

namespace PG
open PySem PySem.Spec PyProof.Rows L2 RT
structure Pup where
  i : Nat
  d : Option Rat
  lo : Option Rat
  hi : Option Rat
section
variable {st : List Cell} {Q : Vl → List Cell → Prop}
end
end PG

set_option maxRecDepth 100000
set_option maxHeartbeats 4000000

namespace PG
open PySem PySem.Spec PyProof.Rows L2 RT
structure PupZ (n : Nat) (p : Pup) : Prop where
  d : Zo n p.d
  lo : Zo n p.lo
  hi : Zo n p.hi
section
variable {st : List Cell} {Q : Vl → List Cell → Prop}
end
end PG

set_option maxRecDepth 100000
set_option maxHeartbeats 4000000
namespace PG
open PySem PySem.Spec PyProof.Rows L2 RT

theorem least_go : ∀ (l : List (Option Rat)) (b : Option Rat), match l.foldl (bstep fun x y => x < y) b with
    | none => b = none ∧ ∀ o ∈ l, o = none
    | some s => (b = some s ∨ some s ∈ l) ∧ (∀ y, b = some y → s ≤ y) ∧ ∀ y, some y ∈ l → s ≤ y
  | [], none => ⟨rfl, fun _ h => nomatch h⟩
  | [], some b => ⟨.inl rfl, fun y e => by cases e; exact Rat.le_refl, fun _ h => nomatch h⟩
  | o :: l, b => by
    rw [List.foldl_cons]
    have ih := least_go l (bstep (fun x y => x < y) b o)
    cases hr : l.foldl (bstep fun x y => x < y) (bstep (fun x y => x < y) b o) with
    | none =>
      rw [hr] at ih
      obtain ⟨h1, h2⟩ := ih
      cases o with
      | none => exact ⟨h1, fun o ho => by
          rcases List.mem_cons.mp ho with e | e
          · exact e
          · exact h2 o e⟩
      | some x =>
        cases b with
        | none => cases h1
        | some y =>
          unfold bstep at h1
          dsimp only at h1
          split at h1 <;> cases h1
    | some s =>
      rw [hr] at ih
      obtain ⟨h1, h2, h3⟩ := ih
      cases o with
      | none =>
        refine ⟨?_, h2, fun y hy => ?_⟩
        · rcases h1 with h | h
          · exact .inl h
          · exact .inr (List.mem_cons_of_mem _ h)
        · rcases List.mem_cons.mp hy with e | e
          · cases e
          · exact h3 y e
      | some x =>
        cases b with
        | none =>
          refine ⟨?_, (fun y e => nomatch e), fun y hy => ?_⟩
          · rcases h1 with h | h
            · cases h
              exact .inr List.mem_cons_self
            · exact .inr (List.mem_cons_of_mem _ h)
          · rcases List.mem_cons.mp hy with e | e
            · cases e
              exact h2 x rfl
            · exact h3 y e
        | some z =>
          unfold bstep at h1 h2
          dsimp only at h1 h2
          by_cases c : x < z
          · rw [if_pos c] at h1 h2
            refine ⟨?_, fun y e => ?_, fun y hy => ?_⟩
            · rcases h1 with h | h
              · cases h
                exact .inr List.mem_cons_self
              · exact .inr (List.mem_cons_of_mem _ h)
            · cases e
              have := h2 x rfl
              grind
            · rcases List.mem_cons.mp hy with e | e
              · cases e
                exact h2 x rfl
              · exact h3 y e
          · rw [if_neg c] at h1 h2
            refine ⟨?_, fun y e => ?_, fun y hy => ?_⟩
            · rcases h1 with h | h
              · exact .inl h
              · exact .inr (List.mem_cons_of_mem _ h)
            · exact h2 y e
            · rcases List.mem_cons.mp hy with e | e
              · cases e
                have := h2 z rfl
                grind
              · exact h3 y e
theorem least_none {l : List (Option Rat)} (h : least l = none) : ∀ o ∈ l, o = none := by
  have := least_go l none
  unfold least at h
  rw [h] at this
  exact this.2
theorem least_some {l : List (Option Rat)} {s : Rat} (h : least l = some s) : some s ∈ l ∧ ∀ y, some y ∈ l → s ≤ y := by
  have := least_go l none
  unfold least at h
  rw [h] at this
  exact ⟨this.1.resolve_left (fun e => nomatch e), this.2.2⟩
theorem greatest_neg : ∀ (l : List (Option Rat)) (b : Option Rat), (l.foldl (bstep fun x y => y < x) b).map (-·) = (l.map (Option.map (-·))).foldl (bstep fun x y => x < y) (b.map (-·))
  | [], _ => rfl
  | o :: l, b => by
    rw [List.map_cons, List.foldl_cons, List.foldl_cons, greatest_neg l]
    congr 1
    cases o with
    | none => rfl
    | some x =>
      cases b with
      | none => rfl
      | some y =>
        unfold bstep
        dsimp only [Option.map_some]
        by_cases c : y < x
        · rw [if_pos c, if_pos (by grind)]
          rfl
        · rw [if_neg c, if_neg (by grind)]
          rfl
theorem greatest_none {l : List (Option Rat)} (h : greatest l = none) : ∀ o ∈ l, o = none := fun o ho => by
  have e := greatest_neg l none
  unfold greatest at h
  rw [h] at e
  have := least_none (show least (l.map (Option.map (-·))) = none from e.symm) _ (List.mem_map.mpr ⟨o, ho, rfl⟩)
  cases o with
  | none => rfl
  | some x => cases this
theorem greatest_some {l : List (Option Rat)} {s : Rat} (h : greatest l = some s) : some s ∈ l ∧ ∀ y, some y ∈ l → y ≤ s := by
  have e := greatest_neg l none
  unfold greatest at h
  rw [h] at e
  obtain ⟨h1, h2⟩ := least_some (show least (l.map (Option.map (-·))) = some (-s) from e.symm)
  obtain ⟨o, ho, eo⟩ := List.mem_map.mp h1
  refine ⟨?_, fun y hy => ?_⟩
  · cases o with
    | none => cases eo
    | some x =>
      have : -x = -s := Option.some.inj eo
      have : x = s := by grind
      rw [← this]
      exact ho
  · have := h2 (-y) (List.mem_map.mpr ⟨some y, hy, rfl⟩)
    grind

def supF (p q : Rat) (hs : List Hp3) : Option Rat := if p = 0 ∧ q = 0 then some 0 else least (bounds p q hs)
def infF (p q : Rat) (hs : List Hp3) : Option Rat := (supF (-p) (-q) hs).map (-·)
def IsSup (p q : Rat) (hs : List Hp3) (o : Option Rat) : Prop := match o with
  | none => ∀ m, ∃ x, Rg hs x ∧ m ≤ lin2 p q x
  | some s => (∀ x, Rg hs x → lin2 p q x ≤ s) ∧ ∃ x, Rg hs x ∧ lin2 p q x = s
theorem IsSup.unique {p q : Rat} {hs : List Hp3} : ∀ {o o' : Option Rat}, IsSup p q hs o → IsSup p q hs o' → o = o'
  | none, none, _, _ => rfl
  | none, some s, h, h' => by
    obtain ⟨x, hx, e⟩ := h (s + 1)
    have := h'.1 x hx
    grind
  | some s, none, h, h' => by
    obtain ⟨x, hx, e⟩ := h' (s + 1)
    have := h.1 x hx
    grind
  | some s, some t, h, h' => by
    obtain ⟨x, hx, e⟩ := h.2
    obtain ⟨y, hy, e'⟩ := h'.2
    have a := h.1 y hy
    have b := h'.1 x hx
    have : s = t := by grind
    rw [this]
theorem lin0 (x : Ray) : lin2 0 0 x = 0 := by
  unfold lin2
  grind
theorem sup_is {p q : Rat} {hs : List Hp3} (hd : ∀ g ∈ hs, Dir g) {x0 : Ray} (hx : Rg hs x0) : IsSup p q hs (supF p q hs) := by
  unfold supF
  by_cases c : p = 0 ∧ q = 0
  · rw [if_pos c]
    obtain ⟨rfl, rfl⟩ := c
    exact ⟨fun x _ => by rw [lin0]; exact Rat.le_refl, x0, hx, lin0 x0⟩
  · rw [if_neg c]
    cases e : least (bounds p q hs) with
    | none =>
      intro m
      have hn := least_none e
      rcases Rat.le_total (a := m) (b := lin2 p q x0) with z | z
      · exact ⟨x0, hx, z⟩
      · obtain ⟨x, hx, e⟩ := reach c hd hx (m := m) z (fun b hb => nomatch hn _ hb)
        exact ⟨x, hx, by rw [e]; exact Rat.le_refl⟩
    | some s =>
      obtain ⟨h1, h2⟩ := least_some e
      exact ⟨fun x hx => bound_ok hd hx h1, reach c hd hx (bound_ok hd hx h1) h2⟩
end PG

set_option maxRecDepth 100000
set_option maxHeartbeats 4000000

namespace PG
open PySem PySem.Spec PyProof.Rows L2 RT
abbrev Rng := Option (Option Rat × Option Rat)
def inR (lo hi : Option Rat) (x : Rat) : Prop := (∀ l, lo = some l → l ≤ x) ∧ (∀ u, hi = some u → x ≤ u)
def IsRng (S : Rat → Prop) : Rng → Prop
  | none => ∀ x, ¬ S x
  | some o => (∀ x, S x ↔ inR o.1 o.2 x) ∧ ∃ x, S x
theorem up_le {lo hi hi' : Option Rat} {x : Rat} (h : inR lo hi' x) (hh : ∀ y, inR lo hi' y → ∀ u, hi = some u → y ≤ u) : ∀ u, hi = some u → ∃ u', hi' = some u' ∧ u' ≤ u := fun u e => by
  cases hi' with
  | none =>
    have h1 : x ≤ x + (if u ≤ x then 1 else u - x + 1) := by split <;> grind
    have := hh (x + (if u ≤ x then 1 else u - x + 1)) ⟨fun l el => Rat.le_trans (h.1 l el) h1, fun u e => nomatch e⟩ u e
    split at this <;> grind
  | some u' =>
    exact ⟨u', rfl, hh u' ⟨fun l el => Rat.le_trans (h.1 l el) (h.2 u' rfl), fun v e => by cases e; exact Rat.le_refl⟩ u e⟩
theorem lo_le {lo lo' hi : Option Rat} {x : Rat} (h : inR lo' hi x) (hh : ∀ y, inR lo' hi y → ∀ l, lo = some l → l ≤ y) : ∀ l, lo = some l → ∃ l', lo' = some l' ∧ l ≤ l' := fun l e => by
  cases lo' with
  | none =>
    have h1 : x - (if x < l then 1 else x - l + 1) ≤ x := by split <;> grind
    have := hh (x - (if x < l then 1 else x - l + 1)) ⟨fun u e => (nomatch e), fun u eu => Rat.le_trans h1 (h.2 u eu)⟩ l e
    split at this <;> grind
  | some l' =>
    exact ⟨l', rfl, hh l' ⟨fun v e => by cases e; exact Rat.le_refl, fun u eu => Rat.le_trans (h.1 l' rfl) (h.2 u eu)⟩ l e⟩
theorem opt_up {a b : Option Rat} (h1 : ∀ u, a = some u → ∃ u', b = some u' ∧ u' ≤ u) (h2 : ∀ u, b = some u → ∃ u', a = some u' ∧ u' ≤ u) : a = b := by
  cases a with
  | none =>
    cases b with
    | none => rfl
    | some v => obtain ⟨w, e, _⟩ := h2 v rfl; cases e
  | some u =>
    obtain ⟨v, e, hv⟩ := h1 u rfl
    rw [e] at h2 ⊢
    obtain ⟨w, e2, hw⟩ := h2 v rfl
    cases e2
    exact congrArg some (Rat.le_antisymm hw hv)
theorem opt_lo {a b : Option Rat} (h1 : ∀ u, a = some u → ∃ u', b = some u' ∧ u ≤ u') (h2 : ∀ u, b = some u → ∃ u', a = some u' ∧ u ≤ u') : a = b := by
  cases a with
  | none =>
    cases b with
    | none => rfl
    | some v => obtain ⟨w, e, _⟩ := h2 v rfl; cases e
  | some u =>
    obtain ⟨v, e, hv⟩ := h1 u rfl
    rw [e] at h2 ⊢
    obtain ⟨w, e2, hw⟩ := h2 v rfl
    cases e2
    exact congrArg some (Rat.le_antisymm hv hw)
theorem IsRng.unique {S : Rat → Prop} : ∀ {a b : Rng}, IsRng S a → IsRng S b → a = b
  | none, none, _, _ => rfl
  | none, some o, h1, h2 => by obtain ⟨x, hx⟩ := h2.2; exact absurd hx (h1 x)
  | some o, none, h1, h2 => by obtain ⟨x, hx⟩ := h1.2; exact absurd hx (h2 x)
  | some (lo, hi), some (lo', hi'), h1, h2 => by
    obtain ⟨x, hx⟩ := h1.2
    have a : ∀ y, inR lo hi y → inR lo' hi' y := fun y hy => (h2.1 y).mp ((h1.1 y).mpr hy)
    have b : ∀ y, inR lo' hi' y → inR lo hi y := fun y hy => (h1.1 y).mp ((h2.1 y).mpr hy)
    have xa := (h1.1 x).mp hx
    have xb := a x xa
    have e1 : lo = lo' := opt_lo (lo_le xb fun y hy => (b y hy).1) (lo_le xa fun y hy => (a y hy).1)
    have e2 : hi = hi' := opt_up (up_le xb fun y hy => (b y hy).2) (up_le xa fun y hy => (a y hy).2)
    rw [e1, e2]
theorem IsRng.congr {S T : Rat → Prop} (h : ∀ x, S x ↔ T x) : ∀ {o : Rng}, IsRng S o → IsRng T o
  | none, hs => fun x hx => hs x ((h x).mpr hx)
  | some o, hs => ⟨fun x => (h x).symm.trans (hs.1 x), hs.2.elim fun x hx => ⟨x, (h x).mp hx⟩⟩

def badR (r : Rat × Rat) : Bool := decide (r.1 = 0) && decide (r.2 < 0)
def ups (rows : List (Rat × Rat)) : List Rat := (rows.filter fun r => decide (0 < r.1)).map fun r => r.2 / r.1
def los (rows : List (Rat × Rat)) : List Rat := (rows.filter fun r => decide (r.1 < 0)).map fun r => r.2 / r.1
def crossed : Option Rat → Option Rat → Bool
  | some l, some u => decide (u < l)
  | _, _ => false
def rngOf (lo hi : Option Rat) : Rng := if crossed lo hi = true then none else some (lo, hi)
def rowsR (rows : List (Rat × Rat)) : Rng := if rows.any badR = true then none else rngOf (greatest ((los rows).map some)) (least ((ups rows).map some))
theorem mdc {u w : Rat} (h : u ≠ 0) : w = u * (w / u) := by rw [Rat.mul_comm, Rat.div_mul_cancel h]
theorem div_up {u w x : Rat} (h : 0 < u) : u * x ≤ w ↔ x ≤ w / u := by
  have e : w = u * (w / u) := mdc (by grind)
  generalize w / u = t at *
  constructor
  · intro h2
    rw [e] at h2
    exact Rat.le_of_mul_le_mul_left h2 h
  · intro h2
    rw [e]
    exact Rat.mul_le_mul_of_nonneg_left h2 (Rat.le_of_lt h)
theorem div_lo {u w x : Rat} (h : u < 0) : u * x ≤ w ↔ w / u ≤ x := by
  have e : w = u * (w / u) := mdc (by grind)
  generalize w / u = t at *
  constructor
  · intro h2
    rw [e] at h2
    have : (-u) * t ≤ (-u) * x := by
      rw [Rat.neg_mul, Rat.neg_mul]
      exact Rat.neg_le_neg h2
    exact Rat.le_of_mul_le_mul_left this (by grind)
  · intro h2
    rw [e]
    have := Rat.mul_le_mul_of_nonneg_left h2 (show (0 : Rat) ≤ -u by grind)
    grind
theorem rows_iff {rows : List (Rat × Rat)} (hb : ¬ rows.any badR = true) (x : Rat) : (∀ r ∈ rows, r.1 * x ≤ r.2) ↔ (∀ a ∈ ups rows, x ≤ a) ∧ ∀ b ∈ los rows, b ≤ x := by
  constructor
  · intro h
    refine ⟨fun a ha => ?_, fun b hb => ?_⟩
    · obtain ⟨r, hr, rfl⟩ := List.mem_map.mp ha
      obtain ⟨h1, h2⟩ := List.mem_filter.mp hr
      exact (div_up (of_decide_eq_true h2)).mp (h r h1)
    · obtain ⟨r, hr, rfl⟩ := List.mem_map.mp hb
      obtain ⟨h1, h2⟩ := List.mem_filter.mp hr
      exact (div_lo (of_decide_eq_true h2)).mp (h r h1)
  · rintro ⟨h1, h2⟩ r hr
    by_cases c : 0 < r.1
    · exact (div_up c).mpr (h1 _ (List.mem_map.mpr ⟨r, List.mem_filter.mpr ⟨hr, decide_eq_true c⟩, rfl⟩))
    by_cases c2 : r.1 < 0
    · exact (div_lo c2).mpr (h2 _ (List.mem_map.mpr ⟨r, List.mem_filter.mpr ⟨hr, decide_eq_true c2⟩, rfl⟩))
    have e : r.1 = 0 := by grind
    have : ¬ badR r = true := fun z => hb (List.any_eq_true.mpr ⟨r, hr, z⟩)
    have : ¬ r.2 < 0 := fun z => this (by unfold badR; rw [decide_eq_true e, decide_eq_true z]; rfl)
    rw [e]
    grind
theorem least_up {l : List Rat} {x : Rat} : (∀ a ∈ l, x ≤ a) ↔ ∀ u, least (l.map some) = some u → x ≤ u := by
  constructor
  · intro h u e
    obtain ⟨m, _⟩ := least_some e
    obtain ⟨a, ha, e2⟩ := List.mem_map.mp m
    cases e2
    exact h u ha
  · intro h a ha
    cases e : least (l.map some) with
    | none => exact absurd (least_none e (some a) (List.mem_map.mpr ⟨a, ha, rfl⟩)) (by simp)
    | some u => exact Rat.le_trans (h u e) ((least_some e).2 a (List.mem_map.mpr ⟨a, ha, rfl⟩))
theorem greatest_lo {l : List Rat} {x : Rat} : (∀ a ∈ l, a ≤ x) ↔ ∀ u, greatest (l.map some) = some u → u ≤ x := by
  constructor
  · intro h u e
    obtain ⟨m, _⟩ := greatest_some e
    obtain ⟨a, ha, e2⟩ := List.mem_map.mp m
    cases e2
    exact h u ha
  · intro h a ha
    cases e : greatest (l.map some) with
    | none => exact absurd (greatest_none e (some a) (List.mem_map.mpr ⟨a, ha, rfl⟩)) (by simp)
    | some u => exact Rat.le_trans ((greatest_some e).2 a (List.mem_map.mpr ⟨a, ha, rfl⟩)) (h u e)
theorem rngOf_is {S : Rat → Prop} {lo hi : Option Rat} (h : ∀ x, S x ↔ inR lo hi x) : IsRng S (rngOf lo hi) := by
  unfold rngOf
  cases lo with
  | none =>
    rw [if_neg (by cases hi <;> exact Bool.false_ne_true)]
    refine ⟨h, ?_⟩
    cases hi with
    | none => exact ⟨0, (h 0).mpr ⟨fun _ e => (nomatch e), fun _ e => nomatch e⟩⟩
    | some u => exact ⟨u, (h u).mpr ⟨fun _ e => (nomatch e), fun _ e => by cases e; exact Rat.le_refl⟩⟩
  | some l =>
    cases hi with
    | none =>
      rw [if_neg (show ¬ crossed (some l) none = true from Bool.false_ne_true)]
      exact ⟨h, l, (h l).mpr ⟨fun _ e => by cases e; exact Rat.le_refl, fun _ e => nomatch e⟩⟩
    | some u =>
      by_cases c : u < l
      · rw [if_pos (show crossed (some l) (some u) = true from decide_eq_true c)]
        intro x hx
        obtain ⟨h1, h2⟩ := (h x).mp hx
        have := h1 l rfl
        have := h2 u rfl
        grind
      · rw [if_neg (show ¬ crossed (some l) (some u) = true from fun z => c (of_decide_eq_true z))]
        exact ⟨h, l, (h l).mpr ⟨fun _ e => by cases e; exact Rat.le_refl, fun _ e => by cases e; grind⟩⟩
theorem rowsR_is (rows : List (Rat × Rat)) : IsRng (fun x => ∀ r ∈ rows, r.1 * x ≤ r.2) (rowsR rows) := by
  unfold rowsR
  by_cases hb : rows.any badR = true
  · rw [if_pos hb]
    intro x hx
    obtain ⟨r, hr, h⟩ := List.any_eq_true.mp hb
    unfold badR at h
    rw [Bool.and_eq_true, decide_eq_true_eq, decide_eq_true_eq] at h
    have := hx r hr
    rw [h.1] at this
    grind
  · rw [if_neg hb]
    refine rngOf_is fun x => ?_
    rw [rows_iff hb x, least_up, greatest_lo]
    exact And.comm

abbrev Ln := Rat × Rat × Rat
def linD (l : Ln) : Dt := .tup [fr l.1, fr l.2.1, fr l.2.2]
def combo (a b : Ln) : Ln := (a.1 + -(a.2.1 / b.2.1) * b.1, 0, a.2.2 + -(a.2.1 / b.2.1) * b.2.2)
def flat (ls : List Ln) : List Ln := ls.filter fun l => decide (l.2.1 = 0)
def posL (ls : List Ln) : List Ln := ls.filter fun l => decide (0 < l.2.1)
def negL (ls : List Ln) : List Ln := ls.filter fun l => decide (l.2.1 < 0)
def rowsL (ls : List Ln) : List Ln := flat ls ++ (posL ls).flatMap fun a => (negL ls).map (combo a)
def satL (x y : Rat) (l : Ln) : Prop := l.1 * x + l.2.1 * y ≤ l.2.2
theorem mid_ex {A B : List Rat} (h : ∀ a ∈ A, ∀ b ∈ B, b ≤ a) : ∃ y : Rat, (∀ a ∈ A, y ≤ a) ∧ ∀ b ∈ B, b ≤ y := by
  cases e : greatest (B.map some) with
  | none =>
    have hB : ∀ b ∈ B, False := fun b hb => absurd (greatest_none e (some b) (List.mem_map.mpr ⟨b, hb, rfl⟩)) (by simp)
    cases e2 : least (A.map some) with
    | none => exact ⟨0, fun a ha => absurd (least_none e2 (some a) (List.mem_map.mpr ⟨a, ha, rfl⟩)) (by simp), fun b hb => (hB b hb).elim⟩
    | some u => exact ⟨u, fun a ha => (least_some e2).2 a (List.mem_map.mpr ⟨a, ha, rfl⟩), fun b hb => (hB b hb).elim⟩
  | some l =>
    obtain ⟨m, hm⟩ := greatest_some e
    obtain ⟨b, hb, e2⟩ := List.mem_map.mp m
    cases e2
    exact ⟨l, fun a ha => h a ha l hb, fun b hb => hm b (List.mem_map.mpr ⟨b, hb, rfl⟩)⟩
theorem combo_le {a b : Ln} {x : Rat} (ha : 0 < a.2.1) (hb : b.2.1 < 0) : (combo a b).1 * x ≤ (combo a b).2.2 ↔ (b.2.2 - b.1 * x) / b.2.1 ≤ (a.2.2 - a.1 * x) / a.2.1 := by
  obtain ⟨u1, v1, w1⟩ := a
  obtain ⟨u2, v2, w2⟩ := b
  dsimp only [combo] at *
  have e1 : (w1 - u1 * x) = v1 * ((w1 - u1 * x) / v1) := mdc (by grind)
  have e2 : (w2 - u2 * x) = v2 * ((w2 - u2 * x) / v2) := mdc (by grind)
  generalize (w1 - u1 * x) / v1 = s at *
  generalize (w2 - u2 * x) / v2 = t at *
  have e3 : v1 = (v1 / v2) * v2 := by rw [Rat.div_mul_cancel (by grind)]
  generalize v1 / v2 = k at *
  have key : (w1 + -k * w2) - (u1 + -k * u2) * x = v1 * (s - t) := by
    have : w1 = v1 * s + u1 * x := by grind
    have : w2 = v2 * t + u2 * x := by grind
    grind
  constructor
  · intro h
    have : 0 ≤ v1 * (s - t) := by grind
    by_cases c : t ≤ s
    · exact c
    · have := Rat.mul_lt_mul_of_pos_left (Rat.not_le.mp c) ha
      grind
  · intro h
    have := Rat.mul_le_mul_of_nonneg_left h (Rat.le_of_lt ha)
    grind
theorem elim_iff (ls : List Ln) (x : Rat) : (∃ y, ∀ l ∈ ls, satL x y l) ↔ ∀ r ∈ rowsL ls, r.1 * x ≤ r.2.2 := by
  have hup : ∀ {l : Ln} {y : Rat}, 0 < l.2.1 → (satL x y l ↔ y ≤ (l.2.2 - l.1 * x) / l.2.1) := fun {l y} h => by
    rw [← div_up h]
    unfold satL
    constructor <;> intro <;> grind
  have hlo : ∀ {l : Ln} {y : Rat}, l.2.1 < 0 → (satL x y l ↔ (l.2.2 - l.1 * x) / l.2.1 ≤ y) := fun {l y} h => by
    rw [← div_lo h]
    unfold satL
    constructor <;> intro <;> grind
  constructor
  · rintro ⟨y, h⟩ r hr
    rcases List.mem_append.mp hr with hr | hr
    · obtain ⟨h1, h2⟩ := List.mem_filter.mp hr
      have := h r h1
      unfold satL at this
      rw [of_decide_eq_true h2] at this
      grind
    · obtain ⟨a, ha, hr⟩ := List.mem_flatMap.mp hr
      obtain ⟨b, hb, rfl⟩ := List.mem_map.mp hr
      obtain ⟨h1, h2⟩ := List.mem_filter.mp ha
      obtain ⟨h3, h4⟩ := List.mem_filter.mp hb
      have pa := of_decide_eq_true h2
      have pb := of_decide_eq_true h4
      exact (combo_le pa pb).mpr (Rat.le_trans ((hlo pb).mp (h b h3)) ((hup pa).mp (h a h1)))
  · intro h
    obtain ⟨y, hA, hB⟩ := mid_ex (A := (posL ls).map fun l => (l.2.2 - l.1 * x) / l.2.1) (B := (negL ls).map fun l => (l.2.2 - l.1 * x) / l.2.1) (fun s hs t ht => by
      obtain ⟨a, ha, rfl⟩ := List.mem_map.mp hs
      obtain ⟨b, hb, rfl⟩ := List.mem_map.mp ht
      refine (combo_le (of_decide_eq_true (List.mem_filter.mp ha).2) (of_decide_eq_true (List.mem_filter.mp hb).2)).mp (h _ ?_)
      exact List.mem_append_right _ (List.mem_flatMap.mpr ⟨a, ha, List.mem_map.mpr ⟨b, hb, rfl⟩⟩))
    refine ⟨y, fun l hl => ?_⟩
    by_cases c : 0 < l.2.1
    · exact (hup c).mpr (hA _ (List.mem_map.mpr ⟨l, List.mem_filter.mpr ⟨hl, decide_eq_true c⟩, rfl⟩))
    by_cases c2 : l.2.1 < 0
    · exact (hlo c2).mpr (hB _ (List.mem_map.mpr ⟨l, List.mem_filter.mpr ⟨hl, decide_eq_true c2⟩, rfl⟩))
    have e : l.2.1 = 0 := by grind
    have := h l (List.mem_append_left _ (List.mem_filter.mpr ⟨hl, decide_eq_true e⟩))
    unfold satL
    rw [e]
    grind
def lineL (p q : Rat) (g : Hp3) : Ln := if q = 0 then ((g.p : Rat) / p, (g.q : Rat), (g.r : Rat)) else ((g.q : Rat) / q, (g.p : Rat) - (g.q : Rat) / q * p, (g.r : Rat))
def boundsF (p q : Rat) (hs : List Hp3) : Rng := rowsR ((rowsL (hs.map (lineL p q))).map fun l => (l.1, l.2.2))
theorem boundsF_is {p q : Rat} (h0 : ¬ (p = 0 ∧ q = 0)) (hs : List Hp3) : IsRng (fun x => ∃ z : Ray, Rg hs z ∧ p * z.1 + q * z.2 = x) (boundsF p q hs) := by
  refine IsRng.congr (fun x => ?_) (rowsR_is _)
  have e : (∀ r ∈ (rowsL (hs.map (lineL p q))).map fun l => (l.1, l.2.2), r.1 * x ≤ r.2) ↔ ∀ r ∈ rowsL (hs.map (lineL p q)), r.1 * x ≤ r.2.2 := by
    constructor
    · intro h r hr
      exact h _ (List.mem_map.mpr ⟨r, hr, rfl⟩)
    · intro h r hr
      obtain ⟨l, hl, rfl⟩ := List.mem_map.mp hr
      exact h l hl
  rw [e, ← elim_iff]
  by_cases c : q = 0
  · have hp : p ≠ 0 := fun z => h0 ⟨z, c⟩
    have sat : ∀ (g : Hp3) (z : Ray), p * z.1 + q * z.2 = x → (satL x z.2 (lineL p q g) ↔ valH g z ≤ (g.r : Rat)) := fun g z hz => by
      unfold satL lineL valH
      rw [if_pos c]
      have e1 : (g.p : Rat) = (g.p : Rat) / p * p := by rw [Rat.div_mul_cancel hp]
      have e2 : (g.p : Rat) / p * x = (g.p : Rat) * z.1 := by
        rw [← hz, c]
        generalize (g.p : Rat) / p = k at *
        grind
      show (g.p : Rat) / p * x + (g.q : Rat) * z.2 ≤ (g.r : Rat) ↔ _
      rw [e2]
    constructor
    · rintro ⟨y, h⟩
      have hz : p * (x / p, y).1 + q * (x / p, y).2 = x := by
        show p * (x / p) + q * y = x
        rw [c, Rat.mul_comm p, Rat.div_mul_cancel hp]
        grind
      exact ⟨(x / p, y), fun g hg => (sat g _ hz).mp (h _ (List.mem_map.mpr ⟨g, hg, rfl⟩)), hz⟩
    · rintro ⟨z, hz, hx⟩
      refine ⟨z.2, fun l hl => ?_⟩
      obtain ⟨g, hg, rfl⟩ := List.mem_map.mp hl
      exact (sat g z hx).mpr (hz g hg)
  · have sat : ∀ (g : Hp3) (z : Ray), p * z.1 + q * z.2 = x → (satL x z.1 (lineL p q g) ↔ valH g z ≤ (g.r : Rat)) := fun g z hz => by
      unfold satL lineL valH
      rw [if_neg c]
      have e1 : (g.q : Rat) = (g.q : Rat) / q * q := by rw [Rat.div_mul_cancel c]
      show (g.q : Rat) / q * x + ((g.p : Rat) - (g.q : Rat) / q * p) * z.1 ≤ (g.r : Rat) ↔ _
      have e2 : (g.q : Rat) / q * x + ((g.p : Rat) - (g.q : Rat) / q * p) * z.1 = (g.p : Rat) * z.1 + (g.q : Rat) * z.2 := by
        rw [← hz]
        generalize (g.q : Rat) / q = k at *
        rw [e1]
        grind
      rw [e2]
    constructor
    · rintro ⟨y, h⟩
      have hz : p * (y, (x - p * y) / q).1 + q * (y, (x - p * y) / q).2 = x := by
        show p * y + q * ((x - p * y) / q) = x
        rw [Rat.mul_comm q, Rat.div_mul_cancel c]
        grind
      exact ⟨(y, (x - p * y) / q), fun g hg => (sat g _ hz).mp (h _ (List.mem_map.mpr ⟨g, hg, rfl⟩)), hz⟩
    · rintro ⟨z, hz, hx⟩
      refine ⟨z.1, fun l hl => ?_⟩
      obtain ⟨g, hg, rfl⟩ := List.mem_map.mp hl
      exact (sat g z hx).mpr (hz g hg)
end PG

set_option maxRecDepth 100000
set_option maxHeartbeats 4000000
namespace PG
open PySem PySem.Spec PyProof.Rows L2 RT

abbrev Wy := Int × Int
def free (hs : List Hp3) (w : Wy) : Bool := (!decide (w.1 = 0) || !decide (w.2 = 0)) && hs.all fun g => decide (g.p * w.1 + g.q * w.2 ≤ 0)
end PG

set_option maxRecDepth 100000
set_option maxHeartbeats 4000000
namespace PG
open PySem PySem.Spec PyProof.Rows L2 RT
theorem pts_of {hs : List Hp3} {c : Ray} (h1 : c ∈ cands hs) (h2 : Rg hs c) : c ∈ pts hs := List.mem_filter.mpr ⟨h1, all_has.mpr h2⟩
theorem cand_proj {hs : List Hp3} {g : Hp3} (hg : g ∈ hs) : projH g ∈ cands hs := List.mem_cons_of_mem _ (List.mem_flatMap.mpr ⟨g, hg, List.mem_cons_self⟩)
theorem cand_meet {hs : List Hp3} {g k : Hp3} {x : Ray} (hg : g ∈ hs) (hk : k ∈ hs) (h : meetR g k = some x) : x ∈ cands hs := List.mem_cons_of_mem _ (List.mem_flatMap.mpr ⟨g, hg, List.mem_cons_of_mem _ (List.mem_filterMap.mpr ⟨k, hk, h⟩)⟩)
theorem top_at {p q s : Rat} {hs : List Hp3} (hd : ∀ g ∈ hs, Dir g) {x : Ray} (hx : Rg hs x) (e : lin2 p q x = s) (h : supF p q hs = some s) : ∃ c ∈ pts hs, lin2 p q c = s := by
  unfold supF at h
  by_cases c : p = 0 ∧ q = 0
  · rw [if_pos c] at h
    obtain ⟨rfl, rfl⟩ := c
    cases h
    obtain ⟨c, hc, hr⟩ := cand_of hd hx
    exact ⟨c, pts_of hc hr, lin0 c⟩
  · rw [if_neg c] at h
    obtain ⟨h1, _⟩ := least_some h
    rcases List.mem_append.mp h1 with h | h
    · obtain ⟨g, hg, eb⟩ := List.mem_map.mp h
      unfold sglB at eb
      split at eb
      · rename_i hc
        have eb' := Option.some.inj eb
        have hpos := (hd g hg).pos
        have ed := dot_cast g g
        obtain ⟨t, et⟩ : ∃ t, ((g.p : Rat) * p + (g.q : Rat) * q) / (dotI g g : Rat) = t := ⟨_, rfl⟩
        have t0 : 0 < t := by
          rw [← et, Rat.div_def]
          exact Rat.mul_pos hc.2 (Rat.inv_pos.mpr hpos)
        have hc1 := hc.1
        have e1 : p = t * (g.p : Rat) := by
          rw [← et]
          generalize (dotI g g : Rat) = d at *
          grind
        have e2 : q = t * (g.q : Rat) := by
          rw [← et]
          generalize (dotI g g : Rat) = d at *
          grind
        have key : ∀ y : Ray, valH g y = g.r → lin2 p q y = s := fun y hy => by
          rw [← eb', et]
          unfold valH at hy
          unfold lin2
          rw [e1, e2, ← hy]
          grind
        have hv : valH g x = g.r := by
          rw [← eb', et] at e
          unfold lin2 at e
          rw [e1, e2] at e
          unfold valH
          have : t * ((g.p : Rat) * x.1 + (g.q : Rat) * x.2) = t * (g.r : Rat) := by grind
          clear key eb e1 e2 et ed
          generalize (g.p : Rat) * x.1 + (g.q : Rat) * x.2 = u at *
          grind
        rcases line_cand (hd g hg) hx hv with h | ⟨j, hj, y, hm, hy⟩
        · exact ⟨_, pts_of (cand_proj hg) h, key _ (proj_val (hd g hg))⟩
        · exact ⟨y, pts_of (cand_meet hg hj hm) hy, key _ (meet_val hm).2.1⟩
      · cases eb
    · obtain ⟨g, hg, k, hk, eb⟩ := mem_prs h
      unfold prB at eb
      cases hw : prW p q g k with
      | none =>
        rw [hw] at eb
        cases eb
      | some w =>
        rw [hw] at eb
        obtain ⟨h0, w1, w2, e1, e2⟩ := prW_some hw
        have eb' : s = w.1 * (g.r : Rat) + w.2 * (k.r : Rat) := Option.some.inj eb
        have a1 := hx g hg
        have a2 := hx k hk
        have es : w.1 * valH g x + w.2 * valH k x = w.1 * (g.r : Rat) + w.2 * (k.r : Rat) := by
          rw [← eb', ← e]
          unfold lin2 valH
          rw [← e1, ← e2]
          grind
        have b1 := mul_le a1 (Rat.le_of_lt w1)
        have b2 := mul_le a2 (Rat.le_of_lt w2)
        have v1 : valH g x = g.r := by
          have : w.1 * valH g x = w.1 * (g.r : Rat) := by grind
          clear es b1 b2 e1 e2
          generalize valH g x = u at *
          grind
        have v2 : valH k x = k.r := by
          have : w.2 * valH k x = w.2 * (k.r : Rat) := by grind
          clear es b1 b2 e1 e2
          generalize valH k x = u at *
          grind
        exact ⟨x, pts_of (cand_meet hg hk (meet_of h0 v1 v2)) hx, e⟩
end PG

set_option maxRecDepth 100000
set_option maxHeartbeats 4000000
namespace PG
open PySem PySem.Spec PyProof.Rows L2 RT
theorem zb_div (x y : Rat) : zb (x / y) ≤ zb x + zb y := by
  rw [Rat.div_def]
  have := zb_mul x y⁻¹
  have := zb_inv (m := y)
  omega
theorem HZ.zb {n : Nat} {g : Hp3} (h : HZ n g) : zb (g.p : Rat) ≤ n ∧ zb (g.q : Rat) ≤ n ∧ zb (g.r : Rat) ≤ n := by
  obtain ⟨a, b, c⟩ := h
  have := zb_int g.p
  have := zb_int g.q
  have := zb_int g.r
  omega
section
variable {st : List Cell} {Q : Vl → List Cell → Prop} {hs : List Hp3} {n : Nat} {g k : Hp3} {p q : Rat}
end
end PG

set_option maxRecDepth 100000
set_option maxHeartbeats 4000000

namespace PG
open PySem PySem.Spec PyProof.Rows L2 RT
section
variable {st : List Cell} {a b c x : Cell} {l : List Cell}
theorem at0 : (st ++ a :: l)[st.length]? = some a := by simp
theorem at1 : (st ++ a :: b :: l)[st.length + 1]? = some b := by simp [List.getElem?_append_right]
theorem at2 : (st ++ a :: b :: c :: l)[st.length + 2]? = some c := by simp [List.getElem?_append_right]
theorem set1 : (st ++ a :: b :: l).set (st.length + 1) x = st ++ a :: x :: l := by simp [List.set_append_right]
theorem set2 : (st ++ a :: b :: c :: l).set (st.length + 2) x = st ++ a :: b :: x :: l := by simp [List.set_append_right]
theorem tk0 {v : Vl} {Q : Vl → List Cell → Prop} (h : Q v st) : Q v ((st ++ l).take st.length) := by
  rw [List.take_left]
  exact h
end
def LnZ (n : Nat) (l : Ln) : Prop := zb l.1 ≤ n ∧ zb l.2.1 ≤ n ∧ zb l.2.2 ≤ n
theorem combo_z {n : Nat} {a b : Ln} (ha : LnZ n a) (hb : LnZ n b) : zb (combo a b).1 ≤ 4 * n ∧ zb (combo a b).2.2 ≤ 4 * n ∧ zb (-(a.2.1 / b.2.1)) ≤ 2 * n := by
  obtain ⟨a1, a2, a3⟩ := ha
  obtain ⟨b1, b2, b3⟩ := hb
  have s := zb_div a.2.1 b.2.1
  rw [← zb_neg] at s
  have w1 := zb_mul (-(a.2.1 / b.2.1)) b.1
  have w2 := zb_mul (-(a.2.1 / b.2.1)) b.2.2
  have w3 := zb_add a.1 (-(a.2.1 / b.2.1) * b.1)
  have w4 := zb_add a.2.2 (-(a.2.1 / b.2.1) * b.2.2)
  exact ⟨by show zb (a.1 + -(a.2.1 / b.2.1) * b.1) ≤ _; omega, by show zb (a.2.2 + -(a.2.1 / b.2.1) * b.2.2) ≤ _; omega, by omega⟩
theorem rowsL_z {n : Nat} {ls : List Ln} (h : ∀ l ∈ ls, LnZ n l) (h2 : 2 ≤ n) : ∀ r ∈ rowsL ls, LnZ (4 * n) r := fun r hr => by
  rcases List.mem_append.mp hr with hr | hr
  · obtain ⟨y1, y2, y3⟩ := h r (List.mem_filter.mp hr).1
    exact ⟨by omega, by omega, by omega⟩
  · obtain ⟨a, ha, hr⟩ := List.mem_flatMap.mp hr
    obtain ⟨b, hb, rfl⟩ := List.mem_map.mp hr
    obtain ⟨y1, y2, _⟩ := combo_z (h a (List.mem_filter.mp ha).1) (h b (List.mem_filter.mp hb).1)
    have z0 : zb (0 : Rat) = 2 := zb0
    exact ⟨y1, by show zb (0 : Rat) ≤ _; omega, y2⟩
theorem line_z {n : Nat} {p q : Rat} {g : Hp3} (hp : zb p ≤ n) (hq : zb q ≤ n) (hg : HZ n g) : LnZ (4 * n) (lineL p q g) := by
  obtain ⟨y1, y2, y3⟩ := hg.zb
  unfold lineL
  split
  · have := zb_div (g.p : Rat) p
    exact ⟨by show zb ((g.p : Rat) / p) ≤ _; omega, by show zb (g.q : Rat) ≤ _; omega, by show zb (g.r : Rat) ≤ _; omega⟩
  · have s := zb_div (g.q : Rat) q
    have t := zb_mul ((g.q : Rat) / q) p
    have u := zb_sub (g.p : Rat) ((g.q : Rat) / q * p)
    exact ⟨by show zb ((g.q : Rat) / q) ≤ _; omega, by show zb ((g.p : Rat) - (g.q : Rat) / q * p) ≤ _; omega, by show zb (g.r : Rat) ≤ _; omega⟩
def rngD : Rng → Dt
  | none => .tup []
  | some o => .tup [ofr o.1, ofr o.2]
section
variable {st : List Cell} {Q : Vl → List Cell → Prop}
theorem lline_ok {p q : Rat} {g : Hp3} {n : Nat} (h0 : ¬ (p = 0 ∧ q = 0)) (hp : zb p ≤ n) (hq : zb q ≤ n) (hg : HZ n g) (hn : n ≤ 1000000) (h : Q (.d (linD (lineL p q g))) st) : sp__law_line [.d (hpD g), .d (fr p), .d (fr q)] st Q := by
  obtain ⟨y1, y2, y3⟩ := hg.zb
  unfold sp__law_line
  refine ⟨rfl, ?_⟩
  let S : Option Vl → M := fun z => ⟨[some (.d (hpD g)), some (.d (fr p)), some (.d (fr q)), some (.d (fr (g.p : Rat))), some (.d (fr (g.q : Rat))), some (.d (fr (g.r : Rat))), z, none], st⟩
  refine seq_to (S none) (fun K hK => ?_) ?_
  · refine lc_map (f := Dt.int) (fun i : Int => fr (i : Rat)) (xs := [g.p, g.q, g.r]) (done := []) (fun x hx C hC => ?_) (Nat.le_of_ble_eq_true rfl) ?_
    · refine ⟨lineN rfl, ?_⟩
      have e : fr (x : Rat) = .tup [.int x, .int 1] := by unfold fr; rw [Rat.num_intCast, Rat.den_intCast]; rfl
      have := hC ((wipeD [some (.d (hpD g)), some (.d (fr p)), some (.d (fr q)), none, none, none, none, none] [7]).set 7 (some (.d (.int x))))
      rw [e] at this
      exact this
    · exact ⟨rfl, hK⟩
  by_cases c : q = 0
  · have e : lineL p q g = ((g.p : Rat) / p, (g.q : Rat), (g.r : Rat)) := by unfold lineL; rw [if_pos c]
    rw [e] at h
    refine guard_st (S none) (fun K hK => ⟨rfl, rfl, ?_⟩) ?_
    · show K (!eqD (.int q.num) (.int 0)) _
      rw [eqD_int, decide_eq_true (Rat.num_eq_zero.mpr c)]
      exact hK
    refine ldiv2_ok (x := (g.p : Rat)) (y := p) (fun z => h0 ⟨z, c⟩) (zm (by omega)) ?_
    exact ⟨lineN rfl, tk h⟩
  · have e : lineL p q g = ((g.q : Rat) / q, (g.p : Rat) - (g.q : Rat) / q * p, (g.r : Rat)) := by unfold lineL; rw [if_neg c]
    rw [e] at h
    have s := zb_div (g.q : Rat) q
    have t := zb_mul ((g.q : Rat) / q) p
    refine ifs_t (S none) (fun K hK => ⟨rfl, rfl, ?_⟩) ?_
    · show K (!eqD (.int q.num) (.int 0)) _
      rw [eqD_int, decide_eq_false (fun z => c (Rat.num_eq_zero.mp z))]
      exact hK
    refine seq_to (S (some (.d (fr ((g.q : Rat) / q))))) (fun K hK => ldiv2_ok (x := (g.q : Rat)) (y := q) c (zm (by omega)) hK) ?_
    refine lmul3_ok (x := (g.q : Rat) / q) (y := p) (zm (by omega)) ?_
    refine lsub3_ok (x := (g.p : Rat)) (y := (g.q : Rat) / q * p) (zm (by omega)) ?_
    exact ⟨lineN rfl, tk h⟩
theorem lleast3_ok {n : Nat} {xs : List Rat} (hz : ∀ q ∈ xs, zb q ≤ n) (hn : n + n < ZM) (h : Q (.d (ofr (least (xs.map some)))) st) : sp__law_least_3 [.d (.lst (xs.map fr))] st Q := by
  unfold sp__law_least_3
  refine ⟨rfl, ?_⟩
  obtain ⟨res, er⟩ : ∃ res, least (xs.map some) = res := ⟨_, rfl⟩
  rw [er] at h
  refine seq_to ⟨[some (.d (.lst (xs.map fr))), some (.d (ofr none)), none], st⟩ (fun K hK => hK) ?_
  refine seq_mid (fun m => ∃ z, m = ⟨[some (.d (.lst (xs.map fr))), some (.d (ofr res)), z], st⟩) (fun K hK => ?_) ?_
  · refine each_inv (lk := none) fr (fun r m => ∃ b z, m = ⟨[some (.d (.lst (xs.map fr))), some (.d (ofr b)), z], st⟩ ∧ (∀ q, b = some q → zb q ≤ n) ∧ (∀ q ∈ r, zb q ≤ n) ∧ (r.map some).foldl (bstep fun x y => x < y) b = res) (fun _ _ _ => trivial) ?_ ?_ xs _ ⟨none, none, rfl, (fun q e => nomatch e), hz, er⟩
    · rintro x r _ K2 hK2 ⟨b, z, rfl, hb, hr, e⟩
      have hx := hr x List.mem_cons_self
      have hr' : ∀ q ∈ r, zb q ≤ n := fun q hq => hr q (List.mem_cons_of_mem _ hq)
      have hv : ∀ q, some x = some q → zb q ≤ n := fun q e => by cases e; exact hx
      have go : K2 ⟨[some (.d (.lst (xs.map fr))), some (.d (ofr (bstep (fun x y => x < y) b (some x)))), some (.d (fr x))], st⟩ := hK2 _ ⟨_, _, rfl, bstep_z hb hv, hr', e⟩
      cases b with
      | none => exact go
      | some b =>
        have zb' := hb b rfl
        refine less_ok (x := x) (y := b) (Nat.lt_of_le_of_lt (Nat.add_le_add hx zb') hn) ?_
        show if (decide (x < b)) = true then _ else _
        unfold bstep at go
        simp only at go
        refine ifd (fun c => ?_) fun c => ?_
        · rw [if_pos c] at go
          exact go
        · rw [if_neg c] at go
          exact go
    · rintro _ ⟨b, z, rfl, _, _, e⟩
      have e' : b = res := e
      rw [e']
      exact hK _ ⟨z, rfl⟩
  rintro _ ⟨z, rfl⟩
  exact tk h
theorem lgreatest_ok {n : Nat} {xs : List Rat} (hz : ∀ q ∈ xs, zb q ≤ n) (hn : n + n < ZM) (h : Q (.d (ofr (greatest (xs.map some)))) st) : sp__law_greatest [.d (.lst (xs.map fr))] st Q := by
  unfold sp__law_greatest
  refine ⟨rfl, ?_⟩
  obtain ⟨res, er⟩ : ∃ res, greatest (xs.map some) = res := ⟨_, rfl⟩
  rw [er] at h
  refine seq_to ⟨[some (.d (.lst (xs.map fr))), some (.d (ofr none)), none], st⟩ (fun K hK => hK) ?_
  refine seq_mid (fun m => ∃ z, m = ⟨[some (.d (.lst (xs.map fr))), some (.d (ofr res)), z], st⟩) (fun K hK => ?_) ?_
  · refine each_inv (lk := none) fr (fun r m => ∃ b z, m = ⟨[some (.d (.lst (xs.map fr))), some (.d (ofr b)), z], st⟩ ∧ (∀ q, b = some q → zb q ≤ n) ∧ (∀ q ∈ r, zb q ≤ n) ∧ (r.map some).foldl (bstep fun x y => y < x) b = res) (fun _ _ _ => trivial) ?_ ?_ xs _ ⟨none, none, rfl, (fun q e => nomatch e), hz, er⟩
    · rintro x r _ K2 hK2 ⟨b, z, rfl, hb, hr, e⟩
      have hx := hr x List.mem_cons_self
      have hr' : ∀ q ∈ r, zb q ≤ n := fun q hq => hr q (List.mem_cons_of_mem _ hq)
      have hv : ∀ q, some x = some q → zb q ≤ n := fun q e => by cases e; exact hx
      have go : K2 ⟨[some (.d (.lst (xs.map fr))), some (.d (ofr (bstep (fun x y => y < x) b (some x)))), some (.d (fr x))], st⟩ := hK2 _ ⟨_, _, rfl, bstep_z hb hv, hr', e⟩
      cases b with
      | none => exact go
      | some b =>
        have zb' := hb b rfl
        refine less_ok (x := b) (y := x) (Nat.lt_of_le_of_lt (Nat.add_le_add zb' hx) hn) ?_
        show if (decide (b < x)) = true then _ else _
        unfold bstep at go
        simp only at go
        refine ifd (fun c => ?_) fun c => ?_
        · rw [if_pos c] at go
          exact go
        · rw [if_neg c] at go
          exact go
    · rintro _ ⟨b, z, rfl, _, _, e⟩
      have e' : b = res := e
      rw [e']
      exact hK _ ⟨z, rfl⟩
  rintro _ ⟨z, rfl⟩
  exact tk h
end
end PG

set_option maxRecDepth 100000
set_option maxHeartbeats 4000000
namespace PG
open PySem PySem.Spec PyProof.Rows L2 RT
theorem ifs_t' {c : DT} {t : DS} {b : DS} {E : DEnds} {m : M} (m' : M) (hc : ∀ K : Bool → M → Prop, K true m' → c m K) (h : t ⟨b E, E.rt, E.bk, E.ct⟩ m') : dSeq (dIfS c t dNext) b E m := hc _ h
def nv (z : Option Dt) : Option Vl := z.map .d
theorem fz_at {i k : Nat} {m : M} {Q : Vl → M → Prop} {xs : List Dt} (hv : m.sl[i]? = some (some (.c k))) (hc : m.st[k]? = some (.lst xs)) (h : Q (.d (.lst xs)) (frz k xs m)) : dFz i m Q := by
  unfold dFz
  rw [hv]
  exact onC_mk hc h
theorem los_snoc {xs : List (Rat × Rat)} {x : Rat × Rat} : los (xs ++ [x]) = los xs ++ (if x.1 < 0 then [x.2 / x.1] else []) := by
  unfold los
  rw [List.filter_append, List.map_append]
  congr 1
  by_cases c : x.1 < 0
  · rw [if_pos c, List.filter_cons, if_pos (decide_eq_true c)]
    rfl
  · rw [if_neg c, List.filter_cons, if_neg (by simpa using c)]
    rfl
theorem ups_snoc {xs : List (Rat × Rat)} {x : Rat × Rat} : ups (xs ++ [x]) = ups xs ++ (if 0 < x.1 then [x.2 / x.1] else []) := by
  unfold ups
  rw [List.filter_append, List.map_append]
  congr 1
  by_cases c : 0 < x.1
  · rw [if_pos c, List.filter_cons, if_pos (decide_eq_true c)]
    rfl
  · rw [if_neg c, List.filter_cons, if_neg (by simpa using c)]
    rfl
theorem rowsL_len {n : Nat} {ls : List Ln} (h : ls.length ≤ n) : (rowsL ls).length ≤ n + n * n := by
  unfold rowsL
  rw [List.length_append]
  have h1 : (flat ls).length ≤ n := Nat.le_trans (List.length_filter_le _ _) h
  have h2 : (negL ls).length ≤ n := Nat.le_trans (List.length_filter_le _ _) h
  have h3 : (posL ls).length ≤ n := Nat.le_trans (List.length_filter_le _ _) h
  have go : ∀ as : List Ln, (as.flatMap fun a => (negL ls).map (combo a)).length ≤ as.length * n := by
    intro as
    induction as with
    | nil => simp
    | cons a as ih =>
      rw [List.flatMap_cons, List.length_append, List.length_map, List.length_cons, Nat.succ_mul]
      omega
  have := go (posL ls)
  have : (posL ls).length * n ≤ n * n := Nat.mul_le_mul_right _ h3
  omega
section
variable {st : List Cell} {Q : Vl → List Cell → Prop}
theorem lbounds_ok {p q : Rat} {hs : List Hp3} {n : Nat} (h0 : ¬ (p = 0 ∧ q = 0)) (hp : zb p ≤ n) (hq : zb q ≤ n) (hg : ∀ g ∈ hs, HZ n g) (h2 : 2 ≤ n) (hn : n ≤ 100000) (hl : hs.length ≤ 100) (h : Q (.d (rngD (boundsF p q hs))) st) :
    sp__law_bounds [.d (.lst (hs.map hpD)), .d (fr p), .d (fr q)] st Q := by
  unfold sp__law_bounds
  refine ⟨rfl, ?_⟩
  obtain ⟨ls, els⟩ : ∃ ls, hs.map (lineL p q) = ls := ⟨_, rfl⟩
  have lz : ∀ l ∈ ls, LnZ (4 * n) l := fun l hl' => by
    rw [← els] at hl'
    obtain ⟨g, hg', rfl⟩ := List.mem_map.mp hl'
    exact line_z hp hq (hg g hg')
  have lz2 : ∀ l ∈ rowsL ls, LnZ (16 * n) l := fun l hl' => by
    obtain ⟨y1, y2, y3⟩ := rowsL_z lz (by omega) l hl'
    exact ⟨by omega, by omega, by omega⟩
  have lsl : ls.length ≤ 100 := by rw [← els, List.length_map]; exact hl
  have rl := rowsL_len lsl
  have eF : boundsF p q hs = rowsR ((rowsL ls).map fun l => (l.1, l.2.2)) := by
    unfold boundsF
    rw [els]
  rw [eF] at h
  let S0 : Option Vl → Option Dt → Option Dt → Option Dt → Option Dt → List Cell → M := fun z4 z5 z6 z7 z8 c => ⟨[some (.d (.lst (hs.map hpD))), some (.d (fr p)), some (.d (fr q)), some (.d (.lst (ls.map linD))), z4, nv z5, nv z6, nv z7, nv z8, none, none, none, none, none, none, none], c⟩
  refine seq_to (S0 none none none none none st) (fun K hK => ?_) ?_
  · refine dlc_map hpD (fun g => linD (lineL p q g)) (xs := hs) (fun K2 h2 => h2) (fun g hgm C hC => ?_) (by omega) ?_
    · exact lline_ok h0 hp hq (hg g hgm) (by omega) (hC _)
    · have e : hs.map (fun g => linD (lineL p q g)) = ls.map linD := by rw [← els, List.map_map]; rfl
      rw [e]
      exact hK
  have tst : ∀ {sl : List (Option Vl)} {i : Nat} {a : Ln} {P : Bool → M → Prop} {op : Bool → Bool} {m : M}, True := fun {_ _ _ _ _ _} => trivial
  refine seq_to (S0 (some (.c st.length)) none none none none (st ++ [Cell.lst ((flat ls).map linD)])) (fun K hK => ?_) ?_
  · refine filt_go (f := linD) (p := fun l : Ln => decide (l.2.1 = 0)) (by show 15 < 16; decide) ?_ ls [] (by rw [List.length_nil]; omega) ?_
    · intro a P hP
      refine ⟨rfl, rfl, ?_⟩
      show P (eqD (.int a.2.1.num) (.int 0)) _
      rw [eqD_int, decide_eq_decide.mpr (Rat.num_eq_zero (q := a.2.1))]
      exact hP
    · exact hK
  refine seq_mid (fun m => ∃ z5 z6 z7 z8, m = S0 (some (.c st.length)) z5 z6 z7 z8 (st ++ [Cell.lst ((rowsL ls).map linD)])) (fun K hK => ?_) ?_
  · refine filt_go (f := linD) (p := fun l : Ln => decide (0 < l.2.1)) (by show 15 < 16; decide) ?_ ls [] (by rw [List.length_nil]; omega) ?_
    · intro a P hP
      refine ⟨trivial, ?_⟩
      show P (decide (0 < a.2.1.num)) _
      rw [decide_eq_decide.mpr (num_pos_iff a.2.1)]
      exact hP
    show dLoop (.nm 5) _ _ none _ ((posL ls).map linD) _
    refine each_inv (lk := none) linD (fun r m => ∃ acc z5 z6 z7 z8, (∀ a ∈ r, a ∈ posL ls) ∧ acc ++ (r.flatMap fun a => (negL ls).map (combo a)) = rowsL ls ∧ m = S0 (some (.c st.length)) z5 z6 z7 z8 (st ++ [Cell.lst (acc.map linD)])) (fun _ _ _ => trivial) ?_ ?_ (posL ls) _ ⟨flat ls, none, none, none, none, fun a ha => ha, rfl, rfl⟩
    · rintro a r _ K2 hK2 ⟨acc, z5, z6, z7, z8, hr, he, rfl⟩
      have ha := hr a List.mem_cons_self
      have haz := lz a (List.mem_filter.mp ha).1
      refine filt_go (f := linD) (p := fun l : Ln => decide (l.2.1 < 0)) (by show 15 < 16; decide) ?_ ls [] (by rw [List.length_nil]; omega) ?_
      · intro a P hP
        refine ⟨trivial, ?_⟩
        show P (decide (a.2.1.num < 0)) _
        rw [decide_eq_decide.mpr (num_neg_iff a.2.1)]
        exact hP
      show dLoop (.nm 6) _ _ none _ ((negL ls).map linD) _
      rw [List.flatMap_cons] at he
      refine each_inv (lk := none) linD (fun w m => ∃ acc z6 z7 z8, (∀ b ∈ w, b ∈ negL ls) ∧ acc ++ w.map (combo a) ++ (r.flatMap fun a => (negL ls).map (combo a)) = rowsL ls ∧ m = S0 (some (.c st.length)) (some (linD a)) z6 z7 z8 (st ++ [Cell.lst (acc.map linD)])) (fun _ _ _ => trivial) ?_ ?_ (negL ls) _ ⟨acc, z6, z7, z8, fun b hb => hb, by rw [List.append_assoc]; exact he, rfl⟩
      · rintro b w _ K3 hK3 ⟨acc, z6, z7, z8, hw, he, rfl⟩
        have hb := hw b List.mem_cons_self
        have hbz := lz b (List.mem_filter.mp hb).1
        have nb : b.2.1 ≠ 0 := by
          have := of_decide_eq_true (List.mem_filter.mp hb).2
          grind
        obtain ⟨a1, a2, a3⟩ := haz
        obtain ⟨b1, b2, b3⟩ := hbz
        obtain ⟨c1, c2, c3⟩ := combo_z (n := 4 * n) (a := a) (b := b) ⟨a1, a2, a3⟩ ⟨b1, b2, b3⟩
        have s := zb_div a.2.1 b.2.1
        have w1 := zb_mul (-(a.2.1 / b.2.1)) b.1
        have w2 := zb_mul (-(a.2.1 / b.2.1)) b.2.2
        have al : acc.length ≤ 100 + 100 * 100 := by
          have := congrArg List.length he
          rw [List.length_append, List.length_append] at this
          omega
        let S1 : Option Dt → Option Dt → M := fun z7 z8 => S0 (some (.c st.length)) (some (linD a)) (some (linD b)) z7 z8 (st ++ [Cell.lst (acc.map linD)])
        refine seq_to (S1 (some (fr (-(a.2.1 / b.2.1)))) z8) (fun K hK => ?_) ?_
        · refine ldiv2_ok (x := a.2.1) (y := b.2.1) nb (zm (by omega)) ?_
          exact lneg_ok hK
        refine seq_to (S1 (some (fr (-(a.2.1 / b.2.1)))) (some (fr (combo a b).1))) (fun K hK => ?_) ?_
        · refine lmul3_ok (x := -(a.2.1 / b.2.1)) (y := b.1) (zm (by omega)) ?_
          exact ladd3_ok (x := a.1) (y := -(a.2.1 / b.2.1) * b.1) (zm (by omega)) hK
        refine append_st (k := st.length) (xs := acc.map linD) (linD (combo a b)) ?_ ?_ (fun C hC => ?_) (small_lt (by rw [List.length_map]; omega)) ?_
        · rfl
        · exact getElem_last _ _
        · refine ⟨lineN rfl, ?_⟩
          refine lmul3_ok (x := -(a.2.1 / b.2.1)) (y := b.2.2) (zm (by omega)) ?_
          refine ladd3_ok (x := a.2.2) (y := -(a.2.1 / b.2.1) * b.2.2) (zm (by omega)) ?_
          exact ⟨lineN rfl, hC⟩
        · dsimp only
          refine hK3 _ ⟨acc ++ [combo a b], some (linD b), some (fr (-(a.2.1 / b.2.1))), some (fr (combo a b).1), fun x hx => hw x (List.mem_cons_of_mem _ hx), ?_, congrArg (M.mk _) ?_⟩
          · rw [← he, List.map_cons]
            simp only [List.append_assoc, List.cons_append, List.nil_append]
          · rw [set_last, List.map_append]
            rfl
      · rintro _ ⟨acc, z6, z7, z8, _, he, rfl⟩
        exact hK2 _ ⟨acc, _, _, _, _, fun x hx => hr x (List.mem_cons_of_mem _ hx), by rw [← he, List.map_nil, List.append_nil], rfl⟩
    · rintro _ ⟨acc, z5, z6, z7, z8, _, he, rfl⟩
      rw [List.flatMap_nil, List.append_nil] at he
      exact hK _ ⟨_, _, _, _, by rw [he]⟩
  rintro _ ⟨z5, z6, z7, z8, rfl⟩
  obtain ⟨R, eR⟩ : ∃ R, rowsL ls = R := ⟨_, rfl⟩
  rw [eR] at lz2 rl h ⊢
  obtain ⟨T, eT⟩ : ∃ T, R.map (fun l : Ln => (l.1, l.2.2)) = T := ⟨_, rfl⟩
  rw [eT] at h
  let S : Option Vl → Option Vl → Option Dt → Option Vl → Option Vl → List Cell → M := fun z9 z10 z11 z12 z13 c => ⟨[some (.d (.lst (hs.map hpD))), some (.d (fr p)), some (.d (fr q)), some (.d (.lst (ls.map linD))), some (.c st.length), nv z5, nv z6, nv z7, nv z8, z9, z10, nv z11, z12, z13, none, none], c⟩
  let C3 : List Rat → List Rat → List Cell := fun lo hi => st ++ [Cell.lst (R.map linD), Cell.lst (lo.map fr), Cell.lst (hi.map fr)]
  refine seq_to (S (some (.c (st.length + 1))) none none none none (st ++ [Cell.lst (R.map linD), Cell.lst []])) (fun K hK => ⟨lineN rfl, ?_⟩) ?_
  · have e : (st ++ [Cell.lst (R.map linD)]).length = st.length + 1 := List.length_append
    show K ⟨[_, _, _, _, _, _, _, _, _, some (.c (st ++ [Cell.lst (R.map linD)]).length), _, _, _, _, _, _], (st ++ [Cell.lst (R.map linD)]) ++ [Cell.lst []]⟩
    rw [e, List.append_assoc]
    exact hK
  refine seq_to (S (some (.c (st.length + 1))) (some (.c (st.length + 2))) none none none (C3 [] [])) (fun K hK => ⟨lineN rfl, ?_⟩) ?_
  · have e : (st ++ [Cell.lst (R.map linD), Cell.lst []]).length = st.length + 2 := List.length_append
    show K ⟨[_, _, _, _, _, _, _, _, _, _, some (.c (st ++ [Cell.lst (R.map linD), Cell.lst []]).length), _, _, _, _, _], (st ++ [Cell.lst (R.map linD), Cell.lst []]) ++ [Cell.lst []]⟩
    rw [e, List.append_assoc]
    exact hK
  have tkC : ∀ {v : Vl} {lo hi : List Rat}, Q v st → Q v ((C3 lo hi).take st.length) := fun {v lo hi} h => tk0 h
  have bound : ∀ x ∈ R, zb (x.2.2 / x.1) ≤ 32 * n := fun x hx => by
    obtain ⟨y1, _, y3⟩ := lz2 x hx
    have := zb_div x.2.2 x.1
    omega
  refine seq_mid (fun m => T.any badR = false ∧ ∃ z11, m = S (some (.c (st.length + 1))) (some (.c (st.length + 2))) z11 none none (C3 (los T) (ups T))) (fun K hK => ?_) ?_
  · show onC (C3 [] []) st.length _
    refine onC_mk at0 ?_
    refine each_inv (lk := some st.length) linD (fun r m => ∃ done z11, done ++ r = R ∧ (done.map fun l : Ln => (l.1, l.2.2)).any badR = false ∧ m = S (some (.c (st.length + 1))) (some (.c (st.length + 2))) z11 none none (C3 (los (done.map fun l : Ln => (l.1, l.2.2))) (ups (done.map fun l : Ln => (l.1, l.2.2))))) ?_ ?_ ?_ R _ ⟨[], none, rfl, rfl, rfl⟩
    · rintro r _ ⟨done, z11, _, _, rfl⟩
      exact at0
    · rintro x r _ K2 hK2 ⟨done, z11, he, hb, rfl⟩
      have hx : x ∈ R := by
        rw [← he]
        exact List.mem_append_right _ List.mem_cons_self
      have hdl : done.length ≤ 100 + 100 * 100 := by
        have := congrArg List.length he
        rw [List.length_append] at this
        omega
      obtain ⟨y1, _, y3⟩ := lz2 x hx
      obtain ⟨D, eD⟩ : ∃ D, done.map (fun l : Ln => (l.1, l.2.2)) = D := ⟨_, rfl⟩
      have Dl : D.length ≤ 100 + 100 * 100 := by rw [← eD, List.length_map]; exact hdl
      have lol : (los D).length ≤ 100 + 100 * 100 := by
        unfold los
        rw [List.length_map]
        exact Nat.le_trans (List.length_filter_le _ _) Dl
      have upl : (ups D).length ≤ 100 + 100 * 100 := by
        unfold ups
        rw [List.length_map]
        exact Nat.le_trans (List.length_filter_le _ _) Dl
      have fin : badR (x.1, x.2.2) = false → K2 (S (some (.c (st.length + 1))) (some (.c (st.length + 2))) (some (linD x)) none none (C3 (los (D ++ [(x.1, x.2.2)])) (ups (D ++ [(x.1, x.2.2)])))) := fun hbx => by
        refine hK2 _ ⟨done ++ [x], some (linD x), by rw [List.append_assoc]; exact he, ?_, ?_⟩
        · rw [List.map_append, List.any_append, hb]
          show (false || (badR (x.1, x.2.2) || false)) = false
          rw [hbx]
          rfl
        · rw [List.map_append, eD]
          rfl
      rw [eD] at hb ⊢
      rw [los_snoc, ups_snoc] at fin
      let U : List Rat → List Rat → M := fun a b => S (some (.c (st.length + 1))) (some (.c (st.length + 2))) (some (linD x)) none none (C3 a b)
      have n0 : (x.1.num = 0) ↔ x.1 = 0 := Rat.num_eq_zero
      by_cases cb : badR (x.1, x.2.2) = true
      · have eN : rowsR T = none := by
          unfold rowsR
          rw [if_pos]
          rw [← eT]
          exact List.any_eq_true.mpr ⟨_, List.mem_map.mpr ⟨x, hx, rfl⟩, cb⟩
        rw [eN] at h
        have hc := cb
        unfold badR at hc
        rw [Bool.and_eq_true, decide_eq_true_eq, decide_eq_true_eq] at hc
        refine PG.ifs_t' (U (los D) (ups D)) (fun K hK => ?_) ?_
        · refine ⟨rfl, rfl, ?_⟩
          show if eqD (.int x.1.num) (.int 0) = true then _ else _
          rw [eqD_int, if_pos (decide_eq_true (n0.mpr hc.1))]
          refine ⟨trivial, ?_⟩
          show K (decide (x.2.2.num < 0)) _
          rw [decide_eq_true ((num_neg_iff _).mpr hc.2)]
          exact hK
        · exact ⟨lineN rfl, tkC h⟩
      · have cb' : badR (x.1, x.2.2) = false := by simpa using cb
        replace fin := fin cb'
        refine guard_st (U (los D) (ups D)) (fun K hK => ?_) ?_
        · refine ⟨rfl, rfl, ?_⟩
          show if eqD (.int x.1.num) (.int 0) = true then _ else _
          rw [eqD_int]
          refine ifd (fun c => ?_) fun c => hK
          refine ⟨trivial, ?_⟩
          show K (decide (x.2.2.num < 0)) _
          have : ¬ x.2.2.num < 0 := fun z => by
            unfold badR at cb'
            rw [decide_eq_true (n0.mp c), decide_eq_true ((num_neg_iff _).mp z)] at cb'
            cases cb'
          rw [decide_eq_false this]
          exact hK
        refine seq_to (U (los D) (ups D ++ (if 0 < x.1 then [x.2.2 / x.1] else []))) (fun K hK => ?_) ?_
        · refine ⟨trivial, ?_⟩
          show if decide (0 < x.1.num) = true then _ else _
          refine ifd (fun c => ?_) fun c => ?_
          · have c' := (num_pos_iff _).mp c
            rw [if_pos c'] at hK
            refine append_st (k := st.length + 2) (xs := (ups D).map fr) (fr (x.2.2 / x.1)) ?_ ?_ (fun C hC => ?_) (small_lt (by rw [List.length_map]; omega)) ?_
            · rfl
            · exact at2
            · exact ldiv2_ok (x := x.2.2) (y := x.1) (by grind) (zm (by omega)) hC
            · show K ⟨_, (st ++ _).set (st.length + 2) _⟩
              rw [set2]
              dsimp only [U, S, C3] at hK
              rw [List.map_append] at hK
              exact hK
          · rw [if_neg (fun z => c ((num_pos_iff _).mpr z)), List.append_nil] at hK
            exact hK
        refine ⟨trivial, ?_⟩
        show if decide (x.1.num < 0) = true then _ else _
        refine ifd (fun c => ?_) fun c => ?_
        · have c' := (num_neg_iff _).mp c
          rw [if_pos c'] at fin
          refine append_st (k := st.length + 1) (xs := (los D).map fr) (fr (x.2.2 / x.1)) ?_ ?_ (fun C hC => ?_) (small_lt (by rw [List.length_map]; omega)) ?_
          · rfl
          · exact at1
          · exact ldiv2_ok (x := x.2.2) (y := x.1) (by grind) (zm (by omega)) hC
          · show K2 ⟨_, (st ++ _).set (st.length + 1) _⟩
            rw [set1]
            dsimp only [S, C3] at fin
            rw [List.map_append (l₁ := los D)] at fin
            exact fin
        · rw [if_neg (fun z => c ((num_neg_iff _).mpr z)), List.append_nil] at fin
          exact fin
    · rintro _ ⟨done, z11, he, hb, rfl⟩
      rw [List.append_nil] at he
      rw [he, eT] at hb ⊢
      exact hK _ ⟨hb, z11, rfl⟩
  rintro _ ⟨hb, z11, rfl⟩
  have zlo : ∀ x ∈ los T, zb x ≤ 32 * n := fun x hx => by
    obtain ⟨r, hr, rfl⟩ := List.mem_map.mp hx
    have := (List.mem_filter.mp hr).1
    rw [← eT] at this
    obtain ⟨l, hl', rfl⟩ := List.mem_map.mp this
    exact bound l hl'
  have zup : ∀ x ∈ ups T, zb x ≤ 32 * n := fun x hx => by
    obtain ⟨r, hr, rfl⟩ := List.mem_map.mp hx
    have := (List.mem_filter.mp hr).1
    rw [← eT] at this
    obtain ⟨l, hl', rfl⟩ := List.mem_map.mp this
    exact bound l hl'
  obtain ⟨lo, elo⟩ : ∃ lo, greatest ((los T).map some) = lo := ⟨_, rfl⟩
  obtain ⟨hi, ehi⟩ : ∃ hi, least ((ups T).map some) = hi := ⟨_, rfl⟩
  have eRR : rowsR T = rngOf lo hi := by
    unfold rowsR
    rw [if_neg (by rw [hb]; exact Bool.false_ne_true), elo, ehi]
  rw [eRR] at h
  have tkD : ∀ {v : Vl} {c : List Cell}, Q v st → Q v ((st ++ c).take st.length) := fun {v c} h => tk0 h
  let C4 : Cell → Cell → List Cell := fun a b => st ++ [Cell.lst (R.map linD), a, b]
  refine seq_to (S (some (.d (.lst ((los T).map fr)))) (some (.c (st.length + 2))) z11 (some (.d (ofr lo))) none (C4 .dead (.lst ((ups T).map fr)))) (fun K hK => ?_) ?_
  · unfold dSet dCall dCons
    refine fz_at (i := 9) (k := st.length + 1) (m := S (some (.c (st.length + 1))) (some (.c (st.length + 2))) z11 none none (C3 (los T) (ups T))) (xs := (los T).map fr) rfl at1 ?_
    have e : frz (st.length + 1) ((los T).map fr) (S (some (.c (st.length + 1))) (some (.c (st.length + 2))) z11 none none (C3 (los T) (ups T))) = S (some (.d (.lst ((los T).map fr)))) (some (.c (st.length + 2))) z11 none none (C4 .dead (.lst ((ups T).map fr))) := by
      unfold frz
      simp only [S, C3, C4, List.map_cons, List.map_nil, set1, if_neg (show ¬ st.length = st.length + 1 by omega), if_neg (show ¬ st.length + 2 = st.length + 1 by omega), if_true]
      cases z5 <;> cases z6 <;> cases z7 <;> cases z8 <;> cases z11 <;> rfl
    rw [e]
    refine lgreatest_ok zlo (zm (by omega)) ?_
    rw [elo]
    exact hK
  refine seq_to (S (some (.d (.lst ((los T).map fr)))) (some (.d (.lst ((ups T).map fr)))) z11 (some (.d (ofr lo))) (some (.d (ofr hi))) (C4 .dead .dead)) (fun K hK => ?_) ?_
  · unfold dSet dCall dCons
    refine fz_at (i := 10) (k := st.length + 2) (m := S (some (.d (.lst ((los T).map fr)))) (some (.c (st.length + 2))) z11 (some (.d (ofr lo))) none (C4 .dead (.lst ((ups T).map fr)))) (xs := (ups T).map fr) rfl at2 ?_
    have e : frz (st.length + 2) ((ups T).map fr) (S (some (.d (.lst ((los T).map fr)))) (some (.c (st.length + 2))) z11 (some (.d (ofr lo))) none (C4 .dead (.lst ((ups T).map fr)))) = S (some (.d (.lst ((los T).map fr)))) (some (.d (.lst ((ups T).map fr)))) z11 (some (.d (ofr lo))) none (C4 .dead .dead) := by
      unfold frz
      simp only [S, C4, List.map_cons, List.map_nil, set2, if_neg (show ¬ st.length = st.length + 2 by omega), if_true]
      cases z5 <;> cases z6 <;> cases z7 <;> cases z8 <;> cases z11 <;> rfl
    rw [e]
    refine lleast3_ok zup (zm (by omega)) ?_
    rw [ehi]
    exact hK
  have zl : ∀ l, lo = some l → zb l ≤ 32 * n := fun l e => by
    rw [e] at elo
    obtain ⟨m, _⟩ := greatest_some elo
    obtain ⟨a, ha, e2⟩ := List.mem_map.mp m
    cases e2
    exact zlo l ha
  have zh : ∀ l, hi = some l → zb l ≤ 32 * n := fun l e => by
    rw [e] at ehi
    obtain ⟨m, _⟩ := least_some ehi
    obtain ⟨a, ha, e2⟩ := List.mem_map.mp m
    cases e2
    exact zup l ha
  have ret : crossed lo hi = false → dRet (dTup (dCons (dVar 12) (dCons (dVar 13) dNil))) (endsOf false st.length Q) (S (some (.d (.lst ((los T).map fr)))) (some (.d (.lst ((ups T).map fr)))) z11 (some (.d (ofr lo))) (some (.d (ofr hi))) (C4 .dead .dead)) := fun hc => by
    unfold rngOf at h
    rw [if_neg (by rw [hc]; exact Bool.false_ne_true)] at h
    exact ⟨lineN rfl, tkD h⟩
  cases lo with
  | none => exact ret (by cases hi <;> rfl)
  | some l =>
    cases hi with
    | none => exact ret rfl
    | some u =>
      refine less_ok (x := u) (y := l) (zm (by have := zl l rfl; have := zh u rfl; omega)) ?_
      show if decide (u < l) = true then _ else _
      by_cases c : u < l
      · rw [if_pos (decide_eq_true c)]
        unfold rngOf at h
        rw [if_pos (show crossed (some l) (some u) = true from decide_eq_true c)] at h
        exact ⟨lineN rfl, tkD h⟩
      · rw [if_neg (by simpa using c)]
        exact ret (decide_eq_false c)
end
end PG

set_option maxRecDepth 100000
set_option maxHeartbeats 4000000
namespace PG
open PySem PySem.Spec PyProof.Rows L2 RT
def isEdge (es : List El) (m : Mp) (j : Nat) (up : Bool) (h : Hp3) : Prop := ∃ lo hi, es[j]? = some (.stop lo hi) ∧
  if up = true then ∃ u, hi = some u ∧ h = mkH (comp m (transfer (es.take j))).a (comp m (transfer (es.take j))).b (u - (comp m (transfer (es.take j))).e)
  else ∃ l, lo = some l ∧ h = mkH (-(comp m (transfer (es.take j))).a) (-(comp m (transfer (es.take j))).b) ((comp m (transfer (es.take j))).e - l)
theorem planes_mem : ∀ (es : List El) (k : Nat) (m : Mp) (x : Ed × Hp3), x ∈ planesOf k m es → ∃ j, x.1.1 = k + j ∧ isEdge es m j x.1.2 x.2
  | [], _, _, _, h => nomatch h
  | e :: es, k, m, x, h => by
    rcases List.mem_append.mp (show x ∈ edgesAt k e m ++ planesOf (k + 1) (comp m (elM e)) es from h) with h | h
    · refine ⟨0, ?_⟩
      have hc : comp m (transfer ((e :: es).take 0)) = m := comp_idr m
      cases e with
      | stop lo hi =>
        rcases List.mem_append.mp (show x ∈ lowE k lo m ++ uppE k hi m from h) with h | h
        · cases lo with
          | none => exact nomatch h
          | some l =>
            rw [show x = _ from List.mem_singleton.mp h]
            refine ⟨rfl, some l, hi, rfl, ?_⟩
            rw [if_neg Bool.false_ne_true, hc]
            exact ⟨l, rfl, rfl⟩
        · cases hi with
          | none => exact nomatch h
          | some l =>
            rw [show x = _ from List.mem_singleton.mp h]
            refine ⟨rfl, lo, some l, rfl, ?_⟩
            rw [if_pos rfl, hc]
            exact ⟨l, rfl, rfl⟩
      | _ => exact nomatch h
    · obtain ⟨j, hj, lo, hi, hs, hx⟩ := planes_mem es (k + 1) _ x h
      refine ⟨j + 1, by omega, lo, hi, hs, ?_⟩
      have hc : comp m (transfer ((e :: es).take (j + 1))) = comp (comp m (elM e)) (transfer (es.take j)) := by
        rw [List.take_succ_cons, transfer_cons, comp_assoc]
      rw [hc]
      exact hx
where
  comp_idr (m : Mp) : comp m (transfer []) = m := comp_id' m
  comp_id' (m : Mp) : comp m idM = m := id_comp m
theorem s_upper : shD (.str ("upper" : Str)) := shS (by decide +kernel)
theorem s_lower : shD (.str ("lower" : Str)) := shS (by decide +kernel)
end PG

set_option maxRecDepth 100000
set_option maxHeartbeats 4000000

namespace PG
open PySem PySem.Spec PyProof.Rows L2 RT
theorem mkH_prim {p q r : Rat} (h : ¬ (p = 0 ∧ q = 0)) : gcd3 (mkH p q r).p (mkH p q r).q (mkH p q r).r = 1 := by
  have hx : ¬ (mkX p q r = 0 ∧ mkY p q r = 0) := fun ⟨a, b⟩ => by
    have g := mkG_pos (r := r) h
    obtain ⟨t, ht, h1, h2, _⟩ := mkH_spec (r := r) h
    have z1 : (mkH p q r).p = 0 := by unfold mkH; rw [a]; exact Int.zero_ediv _
    have z2 : (mkH p q r).q = 0 := by unfold mkH; rw [b]; exact Int.zero_ediv _
    rw [z1] at h1
    rw [z2] at h2
    refine h ⟨?_, ?_⟩
    · have : t * p = 0 := h1.symm
      rcases Rat.mul_eq_zero.mp this with z | z
      · grind
      · exact z
    · have : t * q = 0 := h2.symm
      rcases Rat.mul_eq_zero.mp this with z | z
      · grind
      · exact z
  exact gcd3_div hx
theorem dvd_gcd3 {d x y z : Int} (h1 : d ∣ x) (h2 : d ∣ y) (h3 : d ∣ z) : d ∣ gcd3 x y z := by
  unfold gcd3
  exact Int.dvd_coe_gcd (Int.dvd_coe_gcd h1 h2) h3
theorem mkH_le {p q r : Rat} {D : Rat} {x y z : Int} (h : ¬ (p = 0 ∧ q = 0)) (hD : 0 < D) (hx : p * D = x) (hy : q * D = y) (hz : r * D = z) : (mkH p q r).p.natAbs ≤ x.natAbs ∧ (mkH p q r).q.natAbs ≤ y.natAbs ∧ (mkH p q r).r.natAbs ≤ z.natAbs := by
  obtain ⟨t, ht, h1, h2, h3⟩ := mkH_spec (r := r) h
  have hp := mkH_prim (r := r) h
  generalize mkH p q r = g at *
  obtain ⟨P, Q, R⟩ := g
  dsimp only at *
  obtain ⟨k, ek⟩ : ∃ k, D / t = k := ⟨_, rfl⟩
  have hk : D = k * t := by rw [← ek, Rat.div_mul_cancel (by grind)]
  have k0 : 0 < k := by
    by_cases c : 0 < k
    · exact c
    · have := Rat.mul_le_mul_of_nonneg_left (Rat.not_lt.mp c) (Rat.le_of_lt ht)
      grind
  have e1 : (P : Rat) * k = x := by rw [h1, ← hx, hk]; grind
  have e2 : (Q : Rat) * k = y := by rw [h2, ← hy, hk]; grind
  have e3 : (R : Rat) * k = z := by rw [h3, ← hz, hk]; grind
  have kd := k.den_pos
  have kn : (k.num : Rat) = k * (k.den : Rat) := num_den k
  have toInt : ∀ {a b : Int}, (a : Rat) * k = b → a * k.num = b * k.den := fun {a b} e => by
    have : ((a * k.num : Int) : Rat) = ((b * k.den : Int) : Rat) := by
      rw [Rat.intCast_mul, Rat.intCast_mul, kn, ← e, Rat.intCast_natCast]
      grind
    exact Rat.intCast_inj.mp this
  have cop : Nat.Coprime k.den k.num.natAbs := Nat.Coprime.symm k.reduced
  have dv : ∀ {a b : Int}, (a : Rat) * k = b → (k.den : Int) ∣ a := fun {a b} e => by
    have : (k.den : Int) ∣ a * k.num := ⟨b, by rw [toInt e, Int.mul_comm]⟩
    have h2 : k.den ∣ a.natAbs * k.num.natAbs := by
      rw [← Int.natAbs_mul]
      exact Int.ofNat_dvd_left.mp this
    exact Int.ofNat_dvd_left.mpr (Nat.Coprime.dvd_of_dvd_mul_right cop h2)
  have hd := dvd_gcd3 (dv e1) (dv e2) (dv e3)
  rw [hp] at hd
  have d1 : (k.den : Int) = 1 := by
    have := Int.le_of_dvd (by decide) hd
    omega
  have kpos : 0 < k.num := (num_pos_iff k).mpr k0
  have le : ∀ {a b : Int}, (a : Rat) * k = b → a.natAbs ≤ b.natAbs := fun {a b} e => by
    have := toInt e
    rw [d1, Int.mul_one] at this
    rw [← this, Int.natAbs_mul]
    exact Nat.le_mul_of_pos_right _ (by omega)
  exact ⟨le e1, le e2, le e3⟩
end PG

set_option maxRecDepth 100000
set_option maxHeartbeats 4000000

namespace PG
open PySem PySem.Spec PyProof.Rows L2 RT
theorem planesOf_snoc : ∀ (k : Nat) (m : Mp) (es : List El) (e : El), planesOf k m (es ++ [e]) = planesOf k m es ++ edgesAt (k + es.length) e (comp m (transfer es))
  | k, m, [], e => by
    show edgesAt k e m ++ [] = [] ++ edgesAt (k + 0) e (comp m idM)
    rw [List.append_nil, List.nil_append, Nat.add_zero, id_comp]
  | k, m, x :: es, e => by
    show edgesAt k x m ++ planesOf (k + 1) (comp m (elM x)) (es ++ [e]) = edgesAt k x m ++ planesOf (k + 1) (comp m (elM x)) es ++ edgesAt (k + (es.length + 1)) e (comp m (transfer (x :: es)))
    rw [planesOf_snoc, List.append_assoc, show k + (es.length + 1) = k + 1 + es.length by omega, transfer_cons, comp_assoc]
section
variable {st : List Cell} {Q : Vl → List Cell → Prop}
theorem lplane3_ok {p q r : Rat} (h0 : ¬ (p = 0 ∧ q = 0)) (hp : zb p ≤ 1000000) (hq : zb q ≤ 1000000) (hr : zb r ≤ 1000000) (h : Q (.d (hpD (mkH p q r))) st) : sp__law_plane_3 [.d (fr p), .d (fr q), .d (fr r)] st Q := by
  have p1 := zb_num p
  have p2 := zb_den p
  have q1 := zb_num q
  have q2 := zb_den q
  have r1 := zb_num r
  have r2 := zb_den r
  have dp := den_pos' p
  have dq := den_pos' q
  have dr := den_pos' r
  have m1 := @log2_mul_le p.den q.den
  have m2 := @log2_mul_le q.den r.den
  have m3 := @log2_mul_le p.den r.den
  have f1 : ((p.den : Int) * q.den * r.den).fdiv p.den = q.den * r.den := by
    rw [Int.mul_assoc, Int.mul_fdiv_cancel_left _ (by omega)]
  have f2 : ((p.den : Int) * q.den * r.den).fdiv q.den = p.den * r.den := by
    rw [Int.mul_comm (p.den : Int), Int.mul_assoc, Int.mul_fdiv_cancel_left _ (by omega)]
  have f3 : ((p.den : Int) * q.den * r.den).fdiv r.den = p.den * q.den := by
    rw [Int.mul_fdiv_cancel _ (by omega)]
  unfold sp__law_plane_3
  refine ⟨rfl, ?_⟩
  let S : Option Vl → Option Vl → Option Vl → Option Vl → M := fun z4 z5 z6 z7 => ⟨[some (.d (fr p)), some (.d (fr q)), some (.d (fr r)), some (.d (.int ((p.den : Int) * q.den * r.den))), z4, z5, z6, z7], st⟩
  refine seq_to (S none none none none) (fun K hK => ?_) ?_
  · exact ⟨mulok (by rw [Int.natAbs_natCast, Int.natAbs_natCast]; exact zm (by omega)), mulok (by rw [Int.natAbs_mul, Int.natAbs_natCast, Int.natAbs_natCast, Int.natAbs_natCast]; exact zm (by omega)), hK⟩
  refine seq_to (S none (some (.d (.lst ([mkX p q r, mkY p q r, mkZ p q r].map .int)))) none none) (fun K hK => ?_) ?_
  · refine dlc_map fr (fun x => Dt.int (x.num * (((p.den : Int) * q.den * r.den).fdiv x.den))) (xs := [p, q, r]) (fun K2 h2 => ⟨slt rfl, h2⟩) (fun x hx C hC => ?_) (Nat.le_of_ble_eq_true rfl) ?_
    · refine ⟨den_pos x, ?_⟩
      refine ⟨?_, hC _⟩
      show MulOk x.num (((p.den : Int) * q.den * r.den).fdiv x.den)
      rcases List.mem_cons.mp hx with e | hx
      · rw [e, f1]
        exact mulok (by rw [Int.natAbs_mul, Int.natAbs_natCast, Int.natAbs_natCast]; exact zm (by omega))
      · rcases List.mem_cons.mp hx with e | hx
        · rw [e, f2]
          exact mulok (by rw [Int.natAbs_mul, Int.natAbs_natCast, Int.natAbs_natCast]; exact zm (by omega))
        · rw [List.mem_singleton.mp hx, f3]
          exact mulok (by rw [Int.natAbs_mul, Int.natAbs_natCast, Int.natAbs_natCast]; exact zm (by omega))
    · have e : [p, q, r].map (fun x => Dt.int (x.num * (((p.den : Int) * q.den * r.den).fdiv x.den))) = [mkX p q r, mkY p q r, mkZ p q r].map .int := by
        show [Dt.int (p.num * (((p.den : Int) * q.den * r.den).fdiv p.den)), .int (q.num * (((p.den : Int) * q.den * r.den).fdiv q.den)), .int (r.num * (((p.den : Int) * q.den * r.den).fdiv r.den))] = _
        rw [f1, f2, f3]
        rfl
      rw [e]
      exact hK
  have g0 := mkG_pos (r := r) h0
  have eG : (([mkX p q r, mkY p q r, mkZ p q r].foldl (fun (g : Nat) (x : Int) => Nat.gcd g x.natAbs) 0 : Nat) : Int) = mkG p q r := by
    show ((Nat.gcd (Nat.gcd (Nat.gcd 0 (mkX p q r).natAbs) (mkY p q r).natAbs) (mkZ p q r).natAbs : Nat) : Int) = _
    rw [Nat.gcd_zero_left]
    rfl
  refine seq_to (S none (some (.d (.lst ([mkX p q r, mkY p q r, mkZ p q r].map .int)))) (some (.d (.int ((0 : Nat) : Int)))) none) (fun K hK => hK) ?_
  refine seq_mid (fun m => ∃ z4 z7, m = S z4 (some (.d (.lst ([mkX p q r, mkY p q r, mkZ p q r].map .int)))) (some (.d (.int (mkG p q r)))) z7) (fun K hK => ?_) ?_
  · refine each_inv (lk := none) Dt.int (fun xs m => ∃ (g : Nat) (z4 z7 : Option Vl), ((xs.foldl (fun (g : Nat) (x : Int) => Nat.gcd g x.natAbs) g : Nat) : Int) = mkG p q r ∧ m = S z4 (some (.d (.lst ([mkX p q r, mkY p q r, mkZ p q r].map .int)))) (some (.d (.int (g : Int)))) z7) (fun _ _ _ => trivial) ?_ ?_ [mkX p q r, mkY p q r, mkZ p q r] _ ⟨0, none, none, eG, rfl⟩
    · rintro w xs _ K2 hK2 ⟨g, z4, z7, he, rfl⟩
      rw [List.foldl_cons] at he
      refine seq_to (S (some (.d (.int w))) (some (.d (.lst ([mkX p q r, mkY p q r, mkZ p q r].map .int)))) (some (.d (.int (g : Int)))) (some (.d (.int (w.natAbs : Int))))) (fun K hK => by rw [← abs_eq w] at hK; exact hK) ?_
      refine ⟨fun k m => ∃ x y : Nat, m = S (some (.d (.int w))) (some (.d (.lst ([mkX p q r, mkY p q r, mkZ p q r].map .int)))) (some (.d (.int (x : Int)))) (some (.d (.int (y : Int)))) ∧ k = y ∧ Nat.gcd x y = Nat.gcd g w.natAbs, ⟨w.natAbs, g, w.natAbs, rfl, rfl, rfl⟩, ?_⟩
      rintro y m ⟨x, _, rfl, rfl, hgc⟩
      refine ⟨trivial, ?_⟩
      show if (decide ((0 : Int) < y)) = true then _ else _
      by_cases hy : (0 : Int) < y
      · rw [if_pos (decide_eq_true hy)]
        refine ⟨by omega, ?_⟩
        refine ⟨x % y, Nat.mod_lt _ (by omega), y, x % y, ?_, rfl, ?_⟩
        · rw [Int.natCast_emod, ← Int.fmod_eq_emod_of_nonneg _ (by omega)]
          rfl
        · rw [← hgc, Nat.gcd_comm x y, Nat.gcd_rec y x, Nat.gcd_comm]
      · rw [if_neg (by simp; omega)]
        have e : y = 0 := by omega
        subst e
        rw [Nat.gcd_zero_right] at hgc
        rw [← hgc] at he
        exact hK2 _ ⟨x, _, _, he, rfl⟩
    · rintro _ ⟨g, z4, z7, he, rfl⟩
      have he' : (g : Int) = mkG p q r := he
      exact hK _ ⟨z4, z7, by rw [he']⟩
  rintro _ ⟨z4, z7, rfl⟩
  have n0 : mkG p q r ≠ 0 := by omega
  refine ⟨n0, n0, n0, lineN rfl, tk ?_⟩
  show Q (.d (.tup [.int ((mkX p q r).fdiv (mkG p q r)), .int ((mkY p q r).fdiv (mkG p q r)), .int ((mkZ p q r).fdiv (mkG p q r))])) st
  rw [fdiv_pos g0, fdiv_pos g0, fdiv_pos g0]
  exact h

theorem planesOf_len : ∀ (k : Nat) (m : Mp) (es : List El), (planesOf k m es).length ≤ 2 * es.length
  | _, _, [] => Nat.le_refl _
  | k, m, e :: es => by
    show (edgesAt k e m ++ planesOf (k + 1) (comp m (elM e)) es).length ≤ _
    rw [List.length_append, List.length_cons]
    have := edgesAt_len k e m
    have := planesOf_len (k + 1) (comp m (elM e)) es
    omega
theorem lnear2_ok {lo hi : Option Rat} (h : Q (.d (fr (nearest lo hi))) st) : sp__law_near_2 [.d (.tup [ofr lo, ofr hi])] st Q := by
  have h0 : (∀ u, hi = some u → ¬ u < 0) → (∀ l, lo = some l → ¬ 0 < l) → nearest lo hi = 0 := fun a b => by
    cases lo <;> cases hi <;> simp_all [nearest]
  unfold sp__law_near_2
  refine ⟨rfl, ?_⟩
  let S : M := ⟨[some (.d (.tup [ofr lo, ofr hi]))], st⟩
  have two : (∀ l, lo = some l → ¬ 0 < l) → dSeq (dIfS (dAnd (dTest (dNotN (dOp RT.rIx (dVar 0) (dC (.int 1))))) (dTest (dOp rLt (dOp RT.rIx (dOp RT.rIx (dVar 0) (dC (.int 1))) (dC (.int 0))) (dC (.int 0))))) (dRet (dOp RT.rIx (dVar 0) (dC (.int 1)))) dNext) (dRet (dTup (dCons (dC (.int 0)) (dCons (dC (.int 1)) dNil)))) (endsOf false st.length Q) S := fun hl => by
    cases hi with
    | none =>
      rw [h0 (fun u e => by cases e) hl] at h
      exact ⟨lineN rfl, tk h⟩
    | some u =>
      refine ⟨trivial, ?_⟩
      show if decide (u.num < 0) = true then _ else _
      refine ifd (fun c => ?_) fun c => ?_
      · have c := (num_neg_iff _).mp c
        have e : nearest lo (some u) = u := by
          cases lo with
          | none => exact if_pos c
          | some l =>
            have := hl l rfl
            show (if 0 < l then l else if u < 0 then u else 0) = u
            rw [if_neg this, if_pos c]
        rw [e] at h
        exact tk h
      · rw [h0 (fun v e => by cases e; exact fun z => c ((num_neg_iff _).mpr z)) hl] at h
        exact ⟨lineN rfl, tk h⟩
  cases lo with
  | none => exact guard_st S (fun K hK => hK) (two (fun l e => nomatch e))
  | some l =>
    by_cases c : 0 < l.num
    · refine PG.ifs_t' S (fun K hK => ⟨trivial, ?_⟩) ?_
      · show K (decide (0 < l.num)) _
        rw [decide_eq_true c]
        exact hK
      have c := (num_pos_iff _).mp c
      have e : nearest (some l) hi = l := by
        cases hi with
        | none => exact if_pos c
        | some u => exact if_pos c
      rw [e] at h
      exact tk h
    · refine guard_st S (fun K hK => ⟨trivial, ?_⟩) (two (fun v e => by cases e; exact fun z => c ((num_pos_iff _).mpr z)))
      show K (decide (0 < l.num)) _
      rw [decide_eq_false c]
      exact hK
end
end PG

set_option maxRecDepth 100000
set_option maxHeartbeats 4000000

namespace PG
open PySem PySem.Spec PyProof.Rows L2 RT
section
variable {st : List Cell} {Q : Vl → List Cell → Prop}
theorem sh_rngD {o : Rng} : shD (rngD o) := by
  cases o with
  | none => exact sh_ok (n := 2) (sh_tup all_nil)
  | some o => exact sh_ok (n := 2) (sh_tup (all_cons sh_ofr (all_cons sh_ofr all_nil)))
theorem eq_rngD {o : Rng} : eqD (rngD o) (.tup []) = o.isNone := by
  cases o <;> rfl
theorem lempty_ok {hs : List Hp3} {n : Nat} (hg : ∀ g ∈ hs, HZ n g) (h2 : 2 ≤ n) (hn : n ≤ 100000) (hl : hs.length ≤ 100) (h : Q (.d (.bl (boundsF 1 0 hs).isNone)) st) : sp__law_empty [.d (.lst (hs.map hpD))] st Q := by
  unfold sp__law_empty
  have z1 : zb (1 : Rat) = 2 := by decide +kernel
  have z0 : zb (0 : Rat) = 2 := zb0
  refine ⟨rfl, lineN rfl, lineN rfl, ?_⟩
  refine lbounds_ok (p := 1) (q := 0) (n := n) (fun z => absurd z.1 (by decide)) (by omega) (by omega) hg h2 hn hl ?_
  refine ⟨Nat.zero_le _, sh_rngD, sh_rngD (o := none), tk ?_⟩
  show Q (.d (.bl (eqD (rngD (boundsF 1 0 hs)) (.tup [])))) st
  rw [eq_rngD]
  exact h
end
end PG

set_option maxRecDepth 100000
set_option maxHeartbeats 4000000

namespace PG
open PySem PySem.Spec PyProof.Rows L2 RT
abbrev EP := Ed × Hp3
section
variable {st : List Cell} {Q : Vl → List Cell → Prop}
end
end PG

set_option maxRecDepth 100000
set_option maxHeartbeats 4000000
namespace PG
open PySem PySem.Spec PyProof.Rows L2 RT
theorem sx_int2 {i : Int} (h : i.natAbs.log2 ≤ 1900) : (toPy (.int i)).showable = true ∧ (toPy (.int i)).intsShort 600 = true ∧ (toPy (.int i)).weight ≤ 1901 := by
  have hlt : i.natAbs < 10 ^ 599 := by
    by_cases h0 : i.natAbs = 0
    · rw [h0]
      decide
    · have := (Nat.log2_lt h0 (k := 1901)).mp (by omega)
      exact Nat.lt_of_lt_of_le this (by decide +kernel)
  refine ⟨?_, ?_, ?_⟩
  · simp only [toPy, PyData.showable, decide_eq_true_eq]
    omega
  · simp only [toPy, PyData.intsShort, decide_eq_true_eq]
    have e := int_text_length_le10 (k := 599) (by decide) hlt
    show (Str.ofString (toString i)).length ≤ 600
    rw [PySem.ofString_length]
    exact e
  · simp only [toPy, PyData.weight]
    split <;> omega
structure Sl (k W : Nat) (d : Dt) : Prop where
  shw : (toPy d).showable = true
  itg : (toPy d).intsShort 600 = true
  lay : (toPy d).canLay0 = true
  dep : (toPy d).depth ≤ k
  wt : (toPy d).weight ≤ W
theorem Sl.le {k W k' W' : Nat} {d : Dt} (h : Sl k W d) (h1 : k ≤ k') (h2 : W ≤ W') : Sl k' W' d := ⟨h.shw, h.itg, h.lay, Nat.le_trans h.dep h1, Nat.le_trans h.wt h2⟩
theorem Sl.shows {k W : Nat} {d : Dt} (h : Sl k W d) (hk : k ≤ 60) (hW : W ≤ 20000) : shows d := by
  refine ⟨h.shw, Nat.le_trans h.dep hk, ?_⟩
  have h2 := PyData.shown_le 600 (by decide) (toPy d) (PyData.leavesShort_of_canLay0 600 (toPy d) h.lay h.itg)
  have := h.wt
  show (toPy d).shown.length ≤ 16777216
  omega

def exitR : List El → Ray → Option Ray
  | [], r => some r
  | e :: es, r => if blocks e r = true then none else exitR es (behind e r)
section
variable {st : List Cell} {Q : Vl → List Cell → Prop}
theorem lblocks2_ok {e : El} {r : Ray} (he : ElIn e) (h1 : zb r.1 ≤ 20000000) (h : Q (.d (.bl (blocks e r))) st) : sp__law_blocks [.d (elD e), .d (rayD r)] st Q := by
  unfold sp__law_blocks
  have no : ∀ {s : Str}, decide (s = "stop") = false → True := fun _ => trivial
  cases e with
  | gap g => exact ⟨rfl, s_gap, s_stop, str_nt ne_gs (tk h)⟩
  | lens p c => exact ⟨rfl, s_lens, s_stop, str_nt ne_ls (tk h)⟩
  | prism d => exact ⟨rfl, s_prism, s_stop, str_nt ne_ps (tk h)⟩
  | afocal m => exact ⟨rfl, s_afocal, s_stop, str_nt ne_as (tk h)⟩
  | stop lo hi =>
    obtain ⟨z1, z2⟩ := ElIn.zo he
    refine ⟨rfl, s_stop, s_stop, str_nn ?_⟩
    have two : blo lo r.1 = false → dRet (dAndV (dNotN (dOp RT.rIx (dVar 0) (dC (.int 2)))) (dCall PG.sp__law_less [] (dCons (dOp RT.rIx (dVar 0) (dC (.int 2))) (dCons (dOp RT.rIx (dVar 1) (dC (.int 0))) dNil)))) (endsOf false st.length Q) ⟨[some (.d (elD (.stop lo hi))), some (.d (rayD r))], st⟩ := fun hb => by
      have e : blocks (.stop lo hi) r = bhi hi r.1 := by
        show (blo lo r.1 || bhi hi r.1) = _
        rw [hb, Bool.false_or]
      rw [e] at h
      cases hi with
      | none => exact tk h
      | some u =>
        have := z2 u rfl
        exact less_ok (x := u) (y := r.1) (zm (by omega)) (tk h)
    cases lo with
    | none => exact two rfl
    | some l =>
      have := z1 l rfl
      refine less_ok (x := r.1) (y := l) (zm (by omega)) ?_
      show if (decide (r.1 < l)) = true then _ else _
      by_cases c : r.1 < l
      · rw [if_pos (decide_eq_true c)]
        have e : blocks (.stop (some l) hi) r = true := by
          unfold blocks blo
          simp [c]
        rw [e] at h
        exact tk h
      · rw [if_neg (by simpa using c)]
        exact two (by unfold blo; simp [c])
end
end PG

set_option maxRecDepth 100000
set_option maxHeartbeats 4000000
namespace PG
open PySem PySem.Spec PyProof.Rows L2 RT

end PG

set_option maxRecDepth 100000
set_option maxHeartbeats 4000000
namespace PG
open PySem PySem.Spec PyProof.Rows L2 RT
section
variable {st : List Cell} {Q : Vl → List Cell → Prop} {hs : List Hp3} {n : Nat} {g : Hp3} {x : Ray}
end
end PG

set_option maxRecDepth 100000
set_option maxHeartbeats 4000000
namespace PG
open PySem PySem.Spec PyProof.Rows L2 RT
end PG

set_option maxRecDepth 100000
set_option maxHeartbeats 4000000
namespace PG
open PySem PySem.Spec PyProof.Rows L2 RT
theorem inf_is {p q : Rat} {hs : List Hp3} (hd : ∀ g ∈ hs, Dir g) {x0 : Ray} (hx : Rg hs x0) : match infF p q hs with
    | none => ∀ m, ∃ x, Rg hs x ∧ lin2 p q x ≤ m
    | some s => (∀ x, Rg hs x → s ≤ lin2 p q x) ∧ ∃ x, Rg hs x ∧ lin2 p q x = s := by
  have h := sup_is (p := -p) (q := -q) hd hx
  have ln : ∀ x, lin2 (-p) (-q) x = -lin2 p q x := fun x => by
    unfold lin2
    grind
  unfold infF
  cases e : supF (-p) (-q) hs with
  | none =>
    rw [e] at h
    intro m
    obtain ⟨x, hx, e⟩ := h (-m)
    rw [ln] at e
    exact ⟨x, hx, by grind⟩
  | some s =>
    rw [e] at h
    obtain ⟨h1, x, hx, e⟩ := h
    rw [ln] at e
    refine ⟨fun y hy => ?_, x, hx, by grind⟩
    have := h1 y hy
    rw [ln] at this
    grind
theorem mid {p q : Rat} {hs : List Hp3} (hd : ∀ g ∈ hs, Dir g) {x0 : Ray} (hx : Rg hs x0) {m : Rat} (h1 : ∀ l, infF p q hs = some l → l ≤ m) (h2 : ∀ s, supF p q hs = some s → m ≤ s) : ∃ x, Rg hs x ∧ lin2 p q x = m := by
  by_cases c : p = 0 ∧ q = 0
  · obtain ⟨rfl, rfl⟩ := c
    have a := h2 0 (by unfold supF; rw [if_pos ⟨rfl, rfl⟩])
    have b := h1 0 (by unfold infF supF; rw [if_pos ⟨by grind, by grind⟩]; rfl)
    exact ⟨x0, hx, by rw [lin0]; grind⟩
  · have hi := inf_is (p := p) (q := q) hd hx
    have lo : ∃ y, Rg hs y ∧ lin2 p q y ≤ m := by
      cases e : infF p q hs with
      | none =>
        rw [e] at hi
        exact hi m
      | some l =>
        rw [e] at hi
        obtain ⟨_, y, hy, ey⟩ := hi
        exact ⟨y, hy, by rw [ey]; exact h1 l e⟩
    obtain ⟨y, hy, ey⟩ := lo
    refine reach c hd hy ey fun b hb => ?_
    unfold supF at h2
    rw [if_neg c] at h2
    cases e : least (bounds p q hs) with
    | none => exact nomatch least_none e _ hb
    | some s =>
      have a := h2 s e
      have b' := (least_some e).2 b hb
      grind
theorem inf_le_sup {p q : Rat} {hs : List Hp3} (hd : ∀ g ∈ hs, Dir g) {x0 : Ray} (hx : Rg hs x0) {l s : Rat} (h1 : infF p q hs = some l) (h2 : supF p q hs = some s) : l ≤ s := by
  have a := inf_is (p := p) (q := q) hd hx
  have b := sup_is (p := p) (q := q) hd hx
  rw [h1] at a
  rw [h2] at b
  exact Rat.le_trans (a.1 x0 hx) (b.1 x0 hx)
theorem nearest_mid {lo hi : Option Rat} (h : ∀ l s, lo = some l → hi = some s → l ≤ s) : (∀ l, lo = some l → l ≤ nearest lo hi) ∧ ∀ s, hi = some s → nearest lo hi ≤ s := by
  unfold nearest
  cases lo with
  | none =>
    cases hi with
    | none => exact ⟨(fun l e => nomatch e), (fun l e => nomatch e)⟩
    | some s =>
      refine ⟨(fun l e => nomatch e), fun s' e => ?_⟩
      cases e
      dsimp only
      split <;> grind
  | some l =>
    cases hi with
    | none =>
      refine ⟨fun l' e => ?_, (fun l e => nomatch e)⟩
      cases e
      dsimp only
      split <;> grind
    | some s =>
      have := h l s rfl rfl
      refine ⟨fun l' e => ?_, fun s' e => ?_⟩
      · cases e
        dsimp only
        split
        · grind
        · split <;> grind
      · cases e
        dsimp only
        split
        · grind
        · split <;> grind
theorem nearest_or (lo hi : Option Rat) : lo = some (nearest lo hi) ∨ hi = some (nearest lo hi) ∨ nearest lo hi = 0 := by
  unfold nearest
  cases lo <;> cases hi <;> dsimp only <;> (repeat' split) <;> simp
theorem mkH_dir {p q r : Rat} (h : ¬ (p = 0 ∧ q = 0)) : Dir (mkH p q r) := fun ⟨a, b⟩ => by
  obtain ⟨t, ht, h1, h2, h3⟩ := mkH_spec (r := r) h
  rw [a] at h1
  rw [b] at h2
  have z0 : ((0 : Int) : Rat) = 0 := rfl
  rw [z0] at h1 h2
  refine h ⟨?_, ?_⟩
  · exact (Rat.mul_eq_zero.mp h1.symm).resolve_left (by grind)
  · exact (Rat.mul_eq_zero.mp h2.symm).resolve_left (by grind)
def atH (hs : List Hp3) (h : Rat) : List Hp3 := hs ++ [mkH 1 0 h, mkH (-1) 0 (-h)]
theorem n10 : ¬ ((1 : Rat) = 0 ∧ (0 : Rat) = 0) := fun h => absurd h.1 (by decide)
theorem nm10 : ¬ ((-1 : Rat) = 0 ∧ (0 : Rat) = 0) := fun h => absurd h.1 (by decide)
theorem mkH_rg {p q r : Rat} (h : ¬ (p = 0 ∧ q = 0)) (x : Ray) : valH (mkH p q r) x ≤ ((mkH p q r).r : Rat) ↔ p * x.1 + q * x.2 ≤ r := by
  have := mkH_has (r := r) h x
  unfold hasH at this
  exact decide_eq_decide.mp this
theorem atH_rg {hs : List Hp3} {h : Rat} {x : Ray} : Rg (atH hs h) x ↔ Rg hs x ∧ x.1 = h := by
  have a := mkH_rg (r := h) n10 x
  have b := mkH_rg (r := -h) nm10 x
  constructor
  · intro hx
    refine ⟨fun g hg => hx g (List.mem_append_left _ hg), ?_⟩
    have a' := a.mp (hx _ (List.mem_append_right _ List.mem_cons_self))
    have b' := b.mp (hx _ (List.mem_append_right _ (List.mem_cons_of_mem _ List.mem_cons_self)))
    grind
  · rintro ⟨hx, e⟩ g hg
    rcases List.mem_append.mp hg with h' | h'
    · exact hx g h'
    · rcases List.mem_cons.mp h' with e' | h'
      · rw [e']
        exact a.mpr (by grind)
      · rw [List.mem_singleton.mp h']
        exact b.mpr (by grind)
theorem atH_dir {hs : List Hp3} {h : Rat} (hd : ∀ g ∈ hs, Dir g) : ∀ g ∈ atH hs h, Dir g := fun g hg => by
  rcases List.mem_append.mp hg with h' | h'
  · exact hd g h'
  · rcases List.mem_cons.mp h' with e' | h'
    · rw [e']
      exact mkH_dir n10
    · rw [List.mem_singleton.mp h']
      exact mkH_dir nm10
end PG

set_option maxRecDepth 100000
set_option maxHeartbeats 4000000

namespace PG
open PySem PySem.Spec PyProof.Rows L2 RT
theorem fov_rng {p q : Rat} (h0 : ¬ (p = 0 ∧ q = 0)) {hs : List Hp3} (hd : ∀ g ∈ hs, Dir g) : boundsF p q hs = if emptyB hs = true then none else some (infF p q hs, supF p q hs) := by
  refine IsRng.unique (boundsF_is h0 hs) ?_
  by_cases c : emptyB hs = true
  · rw [if_pos c]
    rintro x ⟨z, hz, _⟩
    exact (emptyB_iff hd).mp c ⟨z, hz⟩
  · rw [if_neg c]
    obtain ⟨x0, hx⟩ : ∃ x, Rg hs x := Classical.byContradiction fun n => c ((emptyB_iff hd).mpr n)
    refine ⟨fun x => ⟨?_, ?_⟩, lin2 p q x0, x0, hx, rfl⟩
    · rintro ⟨z, hz, e⟩
      have e' : lin2 p q z = x := e
      refine ⟨fun l el => ?_, fun u eu => ?_⟩
      · have := inf_is (p := p) (q := q) hd hx
        have el' : infF p q hs = some l := el
        rw [el'] at this
        rw [← e']
        exact this.1 z hz
      · have := sup_is (p := p) (q := q) hd hx
        have eu' : supF p q hs = some u := eu
        rw [eu'] at this
        rw [← e']
        exact this.1 z hz
    · rintro ⟨h1, h2⟩
      obtain ⟨z, hz, e⟩ := mid hd hx (m := x) h1 h2
      exact ⟨z, hz, e⟩

end PG

set_option maxRecDepth 100000
set_option maxHeartbeats 4000000

namespace PG
open PySem PySem.Spec PyProof.Rows L2 RT
section
variable {st : List Cell} {Q : Vl → List Cell → Prop}
end
end PG

set_option maxRecDepth 100000
set_option maxHeartbeats 4000000
namespace PG
open PySem PySem.Spec PyProof.Rows L2 RT
section
variable {st : List Cell} {Q : Vl → List Cell → Prop}
end
end PG

set_option maxRecDepth 100000
set_option maxHeartbeats 4000000

namespace PG
open PySem PySem.Spec PyProof.Rows L2 RT
theorem filt_map {α : Type} {f h : α → Dt} {p : α → Bool} {sl slw : List (Option Vl)} {i : Nat} {tt : DT} {te : DE} {all : List Dt} {st : List Cell} {K : List Dt → M → Prop} :
    ∀ (xs acc : List α), (∀ a ∈ xs, ∀ (P : Bool → M → Prop), P (p a) ⟨slw.set i (some (.d (f a))), st⟩ → tt ⟨slw.set i (some (.d (f a))), st⟩ P) → (∀ a ∈ xs, ∀ (C : Vl → M → Prop), C (.d (h a)) ⟨slw.set i (some (.d (f a))), st⟩ → te ⟨slw.set i (some (.d (f a))), st⟩ C) →
      acc.length + xs.length ≤ 100000 → K ((acc ++ xs.filter p).map h) ⟨sl, st⟩ → dLcGo sl slw (.nm i) tt te all none K (xs.map f) (acc.map h) st
  | [], acc, _, _, _, hK => ⟨trivial, by rw [List.filter_nil, List.append_nil] at hK; exact hK⟩
  | x :: xs, acc, ht, he, hl, hK => by
    rw [List.length_cons] at hl
    refine ⟨trivial, ht x List.mem_cons_self _ ?_⟩
    have ht' := fun a (ha : a ∈ xs) => ht a (List.mem_cons_of_mem _ ha)
    have he' := fun a (ha : a ∈ xs) => he a (List.mem_cons_of_mem _ ha)
    cases hp : p x with
    | true =>
      rw [if_pos rfl]
      refine he x List.mem_cons_self _ ⟨by rw [List.length_map]; exact small_lt (by omega), ?_⟩
      have := filt_map (all := all) (K := K) xs (acc ++ [x]) ht' he' (by rw [List.length_append, List.length_singleton]; omega) (by rw [List.append_assoc]; rw [List.filter_cons, if_pos hp] at hK; exact hK)
      rw [List.map_append] at this
      exact this
    | false =>
      exact filt_map (K := K) xs acc ht' he' (by omega) (by rw [List.filter_cons, if_neg (by rw [hp]; decide)] at hK; exact hK)
section
variable {st : List Cell} {Q : Vl → List Cell → Prop}
end
end PG

set_option maxRecDepth 100000
set_option maxHeartbeats 4000000
namespace PG
open PySem PySem.Spec PyProof.Rows L2 RT
section
variable {st : List Cell} {Q : Vl → List Cell → Prop}
end
end PG

set_option maxRecDepth 100000
set_option maxHeartbeats 4000000
namespace PG
open PySem PySem.Spec PyProof.Rows L2 RT
structure Lg (k L : Nat) (d : Dt) : Prop where
  shw : (toPy d).showable = true
  dep : (toPy d).depth ≤ k
  len : (toPy d).shown.length ≤ L
theorem Lg.le {k L k' L' : Nat} {d : Dt} (h : Lg k L d) (h1 : k ≤ k') (h2 : L ≤ L') : Lg k' L' d := ⟨h.shw, Nat.le_trans h.dep h1, Nat.le_trans h.len h2⟩
theorem lg_int {i : Int} (h : i.natAbs.log2 ≤ 1900) : Lg 0 600 (.int i) := by
  obtain ⟨a, b, _⟩ := sx_int2 h
  refine ⟨a, Nat.le_refl _, ?_⟩
  simp only [toPy, PyData.intsShort, decide_eq_true_eq] at b
  exact b
theorem lg_all {k L : Nat} : ∀ {ds : List Dt}, (∀ d ∈ ds, Lg k L d) → PyData.showableAll (toPys ds) = true ∧ PyData.depthAll (toPys ds) ≤ k ∧ ((PyData.shownAll (toPys ds)).map (·.length)).sum ≤ ds.length * L ∧ (PyData.shownAll (toPys ds)).length = ds.length
  | [], _ => by simp [toPys, PyData.showableAll, PyData.depthAll, PyData.shownAll]
  | d :: ds, h => by
    obtain ⟨a1, a2, a3⟩ := h d List.mem_cons_self
    obtain ⟨b1, b2, b3, b4⟩ := lg_all fun e he => h e (List.mem_cons_of_mem d he)
    refine ⟨?_, depths fun e he => (h e he).dep, ?_, ?_⟩
    · simp only [toPys, PyData.showableAll, a1, b1, Bool.and_self]
    · simp only [toPys, PyData.shownAll, List.map_cons, List.sum_cons, List.length_cons, Nat.succ_mul]
      omega
    · simp only [toPys, PyData.shownAll, List.length_cons, b4]
theorem lg_lst {k L : Nat} {ds : List Dt} (h : ∀ d ∈ ds, Lg k L d) : Lg (k + 1) (ds.length * (L + 2) + 3) (.lst ds) := by
  obtain ⟨b1, b2, b3, b4⟩ := lg_all h
  refine ⟨?_, ?_, ?_⟩
  · simp only [toPy, PyData.showable]
    exact b1
  · simp only [toPy, PyData.depth]
    omega
  · have h2 := listText_len_le (PyData.shownAll (toPys ds))
    simp only [toPy, PyData.shown]
    rw [Nat.mul_add]
    omega
theorem lg_tup {k L : Nat} {ds : List Dt} (h : ∀ d ∈ ds, Lg k L d) : Lg (k + 1) (ds.length * (L + 2) + 3) (.tup ds) := by
  obtain ⟨b1, b2, b3, b4⟩ := lg_all h
  refine ⟨?_, ?_, ?_⟩
  · simp only [toPy, PyData.showable]
    exact b1
  · simp only [toPy, PyData.depth]
    omega
  · have h2 := tupleText_len_le (PyData.shownAll (toPys ds))
    simp only [toPy, PyData.shown]
    rw [Nat.mul_add]
    omega
theorem Lg.shows {k L : Nat} {d : Dt} (h : Lg k L d) (hk : k ≤ 60) (hL : L ≤ 16000000) : shows d := by
  refine ⟨h.shw, Nat.le_trans h.dep hk, ?_⟩
  have := h.len
  show (toPy d).shown.length ≤ 16777216
  omega
theorem lg_fr {q : Rat} (h : zb q ≤ 1900) : Lg 1 1207 (fr q) := by
  have a := zb_num q
  have b := zb_den q
  exact lg_tup (ds := [.int q.num, .int q.den]) (all_cons (lg_int (by omega)) (all_cons (lg_int (by rw [Int.natAbs_natCast]; omega)) all_nil))
theorem lg_non : Lg 0 600 .non := ⟨rfl, Nat.le_refl _, by show (PyData.shown .none).length ≤ 600; decide⟩
theorem lg_ofr {o : Option Rat} (h : Zo 1900 o) : Lg 1 1207 (ofr o) := by
  cases o with
  | none => exact lg_non.le (by decide) (by decide)
  | some q => exact lg_fr (h q rfl)
section
variable {ds : List Int} {i k : Nat} {st : List Cell} {Q : Vl → List Cell → Prop}
end
section
variable {st : List Cell} {Q : Vl → List Cell → Prop}
end
end PG

set_option maxRecDepth 100000
set_option maxHeartbeats 4000000

namespace PG
open PySem PySem.Spec PyProof.Rows L2 RT
section
variable {st : List Cell} {Q : Vl → List Cell → Prop}
end
end PG

set_option maxRecDepth 100000
set_option maxHeartbeats 4000000
namespace PG
open PySem PySem.Spec PyProof.Rows L2 RT
theorem not_empty {hs : List Hp3} (hd : ∀ g ∈ hs, Dir g) (he : emptyB hs = false) : ∃ x, Rg hs x := by
  refine Classical.byContradiction fun hno => ?_
  have := (emptyB_iff hd).mpr hno
  rw [he] at this
  cases this
theorem empty_of {hs : List Hp3} (hd : ∀ g ∈ hs, Dir g) {x : Ray} (hx : Rg hs x) : emptyB hs = false := by
  cases e : emptyB hs with
  | false => rfl
  | true => exact ((emptyB_iff hd).mp e ⟨x, hx⟩).elim
def midH (hs : List Hp3) : Rat := nearest (infF 1 0 hs) (supF 1 0 hs)
def midS (hs : List Hp3) : Rat := nearest (infF 0 1 (atH hs (midH hs))) (supF 0 1 (atH hs (midH hs)))
theorem lin10 (x : Ray) : lin2 1 0 x = x.1 := by
  unfold lin2
  grind
theorem lin01 (x : Ray) : lin2 0 1 x = x.2 := by
  unfold lin2
  grind
theorem midH_in {hs : List Hp3} (hd : ∀ g ∈ hs, Dir g) {x : Ray} (hx : Rg hs x) : ∃ y, Rg hs (midH hs, y) := by
  obtain ⟨h1, h2⟩ := nearest_mid (lo := infF 1 0 hs) (hi := supF 1 0 hs) fun l s => inf_le_sup hd hx
  obtain ⟨y, hy, e⟩ := mid hd hx h1 h2
  rw [lin10] at e
  refine ⟨y.2, ?_⟩
  unfold midH
  rw [← e]
  exact hy
section
variable {st : List Cell} {Q : Vl → List Cell → Prop} {hs : List Hp3} {n : Nat} {g : Hp3} {x : Ray}
end
end PG

set_option maxRecDepth 100000
set_option maxHeartbeats 4000000
namespace PG
open PySem PySem.Spec PyProof.Rows L2 RT

end PG

set_option maxRecDepth 100000
set_option maxHeartbeats 4000000
namespace PG
open PySem PySem.Spec PyProof.Rows L2 RT

end PG

set_option maxRecDepth 100000
set_option maxHeartbeats 4000000
namespace PG
open PySem PySem.Spec PyProof.Rows L2 RT
section
variable {ds : List Int} {i k : Nat} {st : List Cell} {Q : Vl → List Cell → Prop} {hs : List Hp3}
end
end PG

set_option maxRecDepth 100000
set_option maxHeartbeats 4000000

namespace PG
open PySem PySem.Spec PyProof.Rows L2 RT
section
variable {st : List Cell} {Q : Vl → List Cell → Prop}
end
end PG

set_option maxRecDepth 100000
set_option maxHeartbeats 4000000

namespace PG
open PySem PySem.Spec PyProof.Rows L2 RT
section
variable {st : List Cell} {Q : Vl → List Cell → Prop}

theorem bnd2 {hs : List Hp3} {p q : Rat} (hd : ∀ g ∈ hs, Dir g) (h0 : ¬ (p = 0 ∧ q = 0)) (he : emptyB hs = false) : boundsF p q hs = some (infF p q hs, supF p q hs) := by
  rw [fov_rng h0 hd, if_neg (by rw [he]; exact Bool.false_ne_true)]
end
end PG

set_option maxRecDepth 100000
set_option maxHeartbeats 4000000

namespace PG
open PySem PySem.Spec PyProof.Rows L2 RT
end PG

set_option maxRecDepth 100000
set_option maxHeartbeats 4000000
namespace PG
open PySem PySem.Spec PyProof.Rows L2 RT
section
variable {st : List Cell} {Q : Vl → List Cell → Prop}
end
end PG

set_option maxRecDepth 100000
set_option maxHeartbeats 4000000

namespace PG
open PySem PySem.Spec PyProof.Rows L2 RT
section
variable {st : List Cell} {Q : Vl → List Cell → Prop}
end

end PG

set_option maxRecDepth 100000
set_option maxHeartbeats 4000000

namespace PG
open PySem PySem.Spec PyProof.Rows L2 RT
end PG

set_option maxRecDepth 100000
set_option maxHeartbeats 4000000

namespace PG
open PySem PySem.Spec PyProof.Rows L2 RT
section
variable {st : List Cell} {Q : Vl → List Cell → Prop} {hs : List Hp3} {a : Hp3} {n : Nat}
end
end PG

set_option maxRecDepth 100000
set_option maxHeartbeats 4000000
namespace PG
open PySem PySem.Spec PyProof.Rows L2 RT
section
variable {st : List Cell} {Q : Vl → List Cell → Prop} {hs : List Hp3} {n : Nat} {g : Hp3}
end
end PG

set_option maxRecDepth 100000
set_option maxHeartbeats 4000000
namespace PG
open PySem PySem.Spec PyProof.Rows L2 RT
section
variable {st : List Cell} {Q : Vl → List Cell → Prop} {hs : List Hp3} {n : Nat} {g : Hp3}
end
end PG

set_option maxRecDepth 100000
set_option maxHeartbeats 4000000

namespace PG
open PySem PySem.Spec PyProof.Rows L2 RT
section
variable {st : List Cell} {Q : Vl → List Cell → Prop} {hs : List Hp3} {a g k : Hp3} {n : Nat}
end
end PG

set_option maxRecDepth 100000
set_option maxHeartbeats 4000000

namespace PG
open PySem PySem.Spec PyProof.Rows L2 RT
section
variable {st : List Cell} {Q : Vl → List Cell → Prop} {hs : List Hp3} {a : Hp3}
end

end PG

set_option maxRecDepth 100000
set_option maxHeartbeats 4000000

namespace PG
open PySem PySem.Spec PyProof.Rows L2 RT
def ElW : El → Prop
  | .gap g => In 12 12 g
  | e => ElIn e
theorem ElIn.w {e : El} (h : ElIn e) : ElW e := by
  cases e with
  | gap g => exact in_le (by decide) (Pn.in_ h)
  | lens p c => exact h
  | prism d => exact h
  | afocal m => exact h
  | stop lo hi => exact h
theorem ElW.z {e : El} (h : ElW e) : ElZ 12 e := by
  cases e with
  | gap g =>
    have := in_zb (b := 8) (by decide) h (by decide) (by decide) (by decide)
    show zb g ≤ 12
    omega
  | lens p c => exact ⟨Nat.le_trans (ElIn.z (e := .lens p c) h).1 (by decide), Nat.le_trans (ElIn.z (e := .lens p c) h).2 (by decide)⟩
  | prism d => exact Nat.le_trans (ElIn.z (e := .prism d) h) (by decide)
  | afocal m => exact ⟨Nat.le_trans (ElIn.z (e := .afocal m) h).1 (by decide), (ElIn.z (e := .afocal m) h).2⟩
  | stop lo hi => exact ⟨fun q e => Nat.le_trans ((ElIn.z (e := .stop lo hi) h).1 q e) (by decide), fun q e => Nat.le_trans ((ElIn.z (e := .stop lo hi) h).2 q e) (by decide)⟩
theorem ElZ.ok {n : Nat} {e : El} (h : ElZ n e) : ElOk e := by
  cases e with
  | afocal m => exact h.2
  | gap g => trivial
  | lens p c => trivial
  | prism d => trivial
  | stop lo hi => trivial
theorem ElZ.le {n k : Nat} {e : El} (h : ElZ n e) (hk : n ≤ k) : ElZ k e := by
  cases e with
  | afocal m => exact ⟨Nat.le_trans h.1 hk, h.2⟩
  | gap g => exact Nat.le_trans h hk
  | lens p c => exact ⟨Nat.le_trans h.1 hk, Nat.le_trans h.2 hk⟩
  | prism d => exact Nat.le_trans h hk
  | stop lo hi => exact ⟨fun q e => Nat.le_trans (h.1 q e) hk, fun q e => Nat.le_trans (h.2 q e) hk⟩
theorem ElZ.ez {n : Nat} {e : El} (h : ElZ n e) : Ez n e := by
  cases e with
  | afocal m => exact h
  | gap g => exact h
  | lens p c => exact h
  | prism d => exact h
  | stop lo hi => trivial
theorem rbw_behind {j : Nat} {e : El} {r : Ray} (he : ElW e) (hr : Rb j r) : Rb (j + 1) (behind e r) := by
  cases e with
  | gap g =>
    have p13 : 1 ≤ 13 ^ j := Nat.pow_pos (by decide)
    have e13 : 13 ^ (j + 1) = 13 * 13 ^ j := by rw [Nat.pow_succ, Nat.mul_comm]
    have d1 : ∃ k, 0 < k ∧ 12 * 60 ^ (j + 1) = (12 * 60 ^ j) * k := ⟨60, by decide, by rw [Nat.pow_succ]; omega⟩
    have d12 : ∃ k, 0 < k ∧ 12 * 60 ^ (j + 1) = (12 * (12 * 60 ^ j)) * k := ⟨5, by decide, by rw [Nat.pow_succ]; omega⟩
    have u12 : ∀ {B : Nat} {q : Rat}, In (12 * 60 ^ j) B q → In (12 * (12 * 60 ^ j)) B q := fun h => by
      rw [Nat.mul_comm]
      exact in_up (by decide) h
    exact ⟨in_st (j := j) (in_add (u12 hr.1) (in_mul (show In 12 12 g from he) hr.2)) d12 (by omega), in_st (j := j) hr.2 d1 (by omega)⟩
  | lens p c => exact rb_behind (e := .lens p c) he hr
  | prism d => exact rb_behind (e := .prism d) he hr
  | afocal m => exact rb_behind (e := .afocal m) he hr
  | stop lo hi => exact rb_behind (e := .stop lo hi) he hr
theorem lin_w {e : El} (h : ElW e) : ElW (lin e) := by
  cases e with
  | lens p c => exact ⟨h.1, pn_zero⟩
  | prism d => exact pn_zero
  | gap g => exact h
  | afocal m => exact h
  | stop lo hi => exact h
theorem mrbw_comp {j : Nat} {m : Mp} {e : El} (he : ElW e) (h : MRb j m) : MRb (j + 1) (comp m (elM e)) := by
  obtain ⟨h1, h2, h3⟩ := h
  have a1 := rbw_behind (lin_w he) h1
  have a2 := rbw_behind (lin_w he) h2
  have a3 := rbw_behind he h3
  have hd : ∀ m x : Rat, 1 / m * x = x * m⁻¹ := fun m x => by rw [Rat.div_def]; grind
  refine ⟨?_, ?_, ?_⟩
  · have e1 : ((comp m (elM e)).a, (comp m (elM e)).c) = behind (lin e) (m.a, m.c) := by
      cases e <;> (refine Prod.ext ?_ ?_ <;> simp only [comp, elM, lin, behind, idM, hd] <;> grind)
    rw [e1]
    exact a1
  · have e1 : ((comp m (elM e)).b, (comp m (elM e)).d) = behind (lin e) (m.b, m.d) := by
      cases e <;> (refine Prod.ext ?_ ?_ <;> simp only [comp, elM, lin, behind, idM, hd] <;> grind)
    rw [e1]
    exact a2
  · have e1 : ((comp m (elM e)).e, (comp m (elM e)).f) = behind e (m.e, m.f) := by
      cases e <;> (refine Prod.ext ?_ ?_ <;> simp only [comp, elM, lin, behind, idM, hd] <;> grind)
    rw [e1]
    exact a3
theorem mrbw_fold : ∀ {es : List El} {m : Mp} {j : Nat}, (∀ e ∈ es, ElW e) → MRb j m → MRb (j + es.length) (es.foldl (fun m e => comp m (elM e)) m)
  | [], m, j, _, h => h
  | e :: es, m, j, he, h => by
    rw [List.foldl_cons, List.length_cons, show j + (es.length + 1) = (j + 1) + es.length by omega]
    exact mrbw_fold (fun x hx => he x (List.mem_cons_of_mem _ hx)) (mrbw_comp (he e List.mem_cons_self) h)
theorem mrbw_transfer {es : List El} (h : ∀ e ∈ es, ElW e) : MRb es.length (transfer es) := by
  have := mrbw_fold h mrb_id
  rw [Nat.zero_add] at this
  exact this

structure Tz (N : Nat) (es : List El) : Prop where
  el : ∀ e ∈ es, ElZ N e
  pre : ∀ k, MZ N (transfer (es.take k))
theorem Tz.ok {N : Nat} {es : List El} (T : Tz N es) : ∀ e ∈ es, ElOk e := fun e he => (T.el e he).ok
theorem Tz.le {N K : Nat} {es : List El} (T : Tz N es) (h : N ≤ K) : Tz K es := ⟨fun e he => (T.el e he).le h, fun k => (T.pre k).le h⟩
theorem Tz.all {N : Nat} {es : List El} (T : Tz N es) : MZ N (transfer es) := by
  have := T.pre es.length
  rw [List.take_length] at this
  exact this
theorem Tz.pref {N : Nat} {es done rest : List El} (T : Tz N es) (e : es = done ++ rest) : MZ N (transfer done) := by
  have := T.pre done.length
  rw [e, List.take_left] at this
  exact this
theorem Tz.tk {N : Nat} {es : List El} (T : Tz N es) (j : Nat) : Tz N (es.take j) := ⟨fun e he => T.el e (List.mem_of_mem_take he), fun k => by rw [List.take_take]; exact T.pre _⟩
theorem Tz.dt {N : Nat} {es done rest : List El} (T : Tz N es) (e : es = done ++ rest) : det (transfer done) = 1 := det_transfer fun x hx => T.ok x (by rw [e]; exact List.mem_append_left _ hx)
theorem tz_w {es : List El} {j : Nat} (h : ∀ e ∈ es, ElW e) (hl : es.length ≤ j) : Tz (12 + 10 * j) es := by
  refine ⟨fun e he => (h e he).z.le (by omega), fun k => ?_⟩
  refine (mrbw_transfer (es := es.take k) fun e he => h e (List.mem_of_mem_take he)).z.le ?_
  rw [List.length_take]
  omega
theorem tz_in {es : List El} {j : Nat} (h : ∀ e ∈ es, ElIn e) (hl : es.length ≤ j) : Tz (12 + 10 * j) es := tz_w (fun e he => (h e he).w) hl
theorem app_z {N n : Nat} {m : Mp} {r : Ray} (hm : MZ N m) (h1 : zb r.1 ≤ n) (h2 : zb r.2 ≤ n) : zb (appM m r).1 ≤ 3 * N + 2 * n ∧ zb (appM m r).2 ≤ 3 * N + 2 * n := by
  obtain ⟨⟨a, b, c⟩, d, e, f⟩ := hm
  have x1 := zb_mul m.a r.1
  have x2 := zb_mul m.b r.2
  have x3 := zb_add (m.a * r.1) (m.b * r.2)
  have x4 := zb_add (m.a * r.1 + m.b * r.2) m.e
  have y1 := zb_mul m.c r.1
  have y2 := zb_mul m.d r.2
  have y3 := zb_add (m.c * r.1) (m.d * r.2)
  have y4 := zb_add (m.c * r.1 + m.d * r.2) m.f
  exact ⟨by show zb (m.a * r.1 + m.b * r.2 + m.e) ≤ _; omega, by show zb (m.c * r.1 + m.d * r.2 + m.f) ≤ _; omega⟩
theorem elM_zz {n : Nat} {e : El} (h : ElZ n e) : MZ (2 * n + 4) (elM e) := by
  have z0 : zb (0 : Rat) = 2 := zb0
  have z1 : zb (1 : Rat) = 2 := by decide +kernel
  cases e with
  | gap g =>
    have h : zb g ≤ n := h
    exact ⟨⟨by show zb (1 : Rat) ≤ _; omega, by show zb g ≤ _; omega, by show zb (0 : Rat) ≤ _; omega⟩, by show zb (1 : Rat) ≤ _; omega, by show zb (0 : Rat) ≤ _; omega, by show zb (0 : Rat) ≤ _; omega⟩
  | lens p c =>
    obtain ⟨h1, h2⟩ := h
    have a := zb_mul p c
    have b := zb_neg p
    exact ⟨⟨by show zb (1 : Rat) ≤ _; omega, by show zb (0 : Rat) ≤ _; omega, by show zb (-p) ≤ _; omega⟩, by show zb (1 : Rat) ≤ _; omega, by show zb (0 : Rat) ≤ _; omega, by show zb (p * c) ≤ _; omega⟩
  | prism d =>
    have h : zb d ≤ n := h
    exact ⟨⟨by show zb (1 : Rat) ≤ _; omega, by show zb (0 : Rat) ≤ _; omega, by show zb (0 : Rat) ≤ _; omega⟩, by show zb (1 : Rat) ≤ _; omega, by show zb (0 : Rat) ≤ _; omega, by show zb d ≤ _; omega⟩
  | afocal m =>
    obtain ⟨h1, h2⟩ := h
    have a := zb_div 1 m
    exact ⟨⟨by show zb m ≤ _; omega, by show zb (0 : Rat) ≤ _; omega, by show zb (0 : Rat) ≤ _; omega⟩, by show zb (1 / m) ≤ _; omega, by show zb (0 : Rat) ≤ _; omega, by show zb (0 : Rat) ≤ _; omega⟩
  | stop lo hi => exact ⟨⟨by show zb (1 : Rat) ≤ _; omega, by show zb (0 : Rat) ≤ _; omega, by show zb (0 : Rat) ≤ _; omega⟩, by show zb (1 : Rat) ≤ _; omega, by show zb (0 : Rat) ≤ _; omega, by show zb (0 : Rat) ≤ _; omega⟩
section
variable {st : List Cell} {Q : Vl → List Cell → Prop}

theorem transfer_t {N : Nat} {es : List El} (T : Tz N es) (hN : N ≤ 100000) (h : Q (.d (mpD (transfer es))) st) : sp_ray_transfer [.d (.lst (es.map elD))] st Q := by
  unfold sp_ray_transfer
  refine ⟨rfl, ?_⟩
  refine each_inv (lk := none) elD (fun r m => ∃ done z, es = done ++ r ∧ m = ⟨[some (.d (.lst (es.map elD))), some (.d (mpD (transfer done))), z], st⟩) (fun _ _ _ => trivial) ?_ ?_ es _ ⟨[], none, rfl, rfl⟩
  · rintro x r _ K hK ⟨done, z, e1, rfl⟩
    have hm : x ∈ es := by
      rw [e1]
      exact List.mem_append_right _ List.mem_cons_self
    refine elmap_ok (n := N) (T.el x hm) (by omega) ?_
    refine compose_ok (n := 2 * N + 4) ((T.pref e1).le (by omega)) (elM_zz (T.el x hm)) (by omega) ?_
    refine hK _ ⟨done ++ [x], some (.d (elD x)), by rw [e1, List.append_assoc]; rfl, ?_⟩
    rw [transfer_append, transfer_one]
    rfl
  · rintro _ ⟨done, z, e1, rfl⟩
    rw [List.append_nil] at e1
    rw [← e1]
    exact PG.tk h
end
end PG

set_option maxRecDepth 100000
set_option maxHeartbeats 4000000

namespace PG
open PySem PySem.Spec PyProof.Rows L2 RT
section
variable {st : List Cell} {Q : Vl → List Cell → Prop}
end
end PG

set_option maxRecDepth 100000
set_option maxHeartbeats 4000000

namespace PG
open PySem PySem.Spec PyProof.Rows L2 RT
theorem candN_z {hs : List Hp3} {n : Nat} (hd : ∀ g ∈ hs, Dir g) (hg : ∀ g ∈ hs, HZ n g) : ∀ c ∈ cands hs, zb c.1 ≤ 2 * n + 2 ∧ zb c.2 ≤ 2 * n + 2 := fun c hc => by
  have z0 : zb (0 : Rat) = 2 := zb0
  rcases List.mem_cons.mp hc with rfl | hc
  · exact ⟨by show zb (0 : Rat) ≤ _; omega, by show zb (0 : Rat) ≤ _; omega⟩
  · obtain ⟨g, hm, hc⟩ := List.mem_flatMap.mp hc
    have zg := hg g hm
    rcases List.mem_cons.mp hc with rfl | hc
    · have hpos : 0 < dotI g g := Rat.intCast_pos.mp (hd g hm).pos
      have d1 := dot_z zg zg
      have a := lgm zg.2.2 zg.1
      have b := lgm zg.2.2 zg.2.1
      have e1 := zb_divInt (n := g.r * g.p) (d := dotI g g) (by omega)
      have e2 := zb_divInt (n := g.r * g.q) (d := dotI g g) (by omega)
      exact ⟨by show zb (Rat.divInt (g.r * g.p) (dotI g g)) ≤ _; omega, by show zb (Rat.divInt (g.r * g.q) (dotI g g)) ≤ _; omega⟩
    · obtain ⟨k, hk, e⟩ := List.mem_filterMap.mp hc
      exact meet_zn zg (hg k hk) e
theorem pts_z {hs : List Hp3} {n : Nat} (hd : ∀ g ∈ hs, Dir g) (hg : ∀ g ∈ hs, HZ n g) : ∀ c ∈ pts hs, zb c.1 ≤ 2 * n + 2 ∧ zb c.2 ≤ 2 * n + 2 := fun c hc => candN_z hd hg c (List.mem_filter.mp hc).1
theorem sup_pt {p q s : Rat} {hs : List Hp3} (hd : ∀ g ∈ hs, Dir g) {x0 : Ray} (hx : Rg hs x0) (h : supF p q hs = some s) : ∃ c ∈ pts hs, lin2 p q c = s := by
  have hs' := sup_is (p := p) (q := q) hd hx
  rw [h] at hs'
  obtain ⟨_, x, hx', e⟩ := hs'
  exact top_at hd hx' e h
theorem inf_pt {p q s : Rat} {hs : List Hp3} (hd : ∀ g ∈ hs, Dir g) {x0 : Ray} (hx : Rg hs x0) (h : infF p q hs = some s) : ∃ c ∈ pts hs, lin2 p q c = s := by
  unfold infF at h
  cases e : supF (-p) (-q) hs with
  | none => rw [e] at h; cases h
  | some t =>
    rw [e] at h
    have h := Option.some.inj h
    obtain ⟨c, hc, ec⟩ := sup_pt hd hx e
    refine ⟨c, hc, ?_⟩
    have h : -t = s := h
    unfold lin2 at *
    grind
theorem near_pt {p q : Rat} {hs : List Hp3} (hd : ∀ g ∈ hs, Dir g) {x0 : Ray} (hx : Rg hs x0) : nearest (infF p q hs) (supF p q hs) = 0 ∨ ∃ c ∈ pts hs, lin2 p q c = nearest (infF p q hs) (supF p q hs) := by
  rcases nearest_or (infF p q hs) (supF p q hs) with h | h | h
  · exact .inr (inf_pt hd hx h)
  · exact .inr (sup_pt hd hx h)
  · exact .inl h
theorem midH_z {hs : List Hp3} {n : Nat} (hd : ∀ g ∈ hs, Dir g) (hg : ∀ g ∈ hs, HZ n g) {x0 : Ray} (hx : Rg hs x0) : zb (midH hs) ≤ 2 * n + 2 := by
  have z0 : zb (0 : Rat) = 2 := zb0
  rcases near_pt (p := 1) (q := 0) hd hx with h | ⟨c, hc, e⟩
  · show zb (nearest (infF 1 0 hs) (supF 1 0 hs)) ≤ _
    rw [h]
    omega
  · show zb (nearest (infF 1 0 hs) (supF 1 0 hs)) ≤ _
    rw [← e, lin10]
    exact (pts_z hd hg c hc).1
theorem atH_z {hs : List Hp3} {n m : Nat} {h : Rat} (hg : ∀ g ∈ hs, HZ n g) (hh : zb h ≤ m) (hn : n ≤ m + 4) : ∀ g ∈ atH hs h, HZ (m + 4) g := fun g hm => by
  have z1 : zb (1 : Rat) = 2 := by decide +kernel
  have z1' : zb (-1 : Rat) = 2 := by decide +kernel
  have z0 : zb (0 : Rat) = 2 := zb0
  have zn := zb_neg h
  unfold atH at hm
  rcases List.mem_append.mp hm with hm | hm
  · obtain ⟨b, c, d⟩ := hg g hm
    exact ⟨by omega, by omega, by omega⟩
  · simp only [List.mem_cons, List.not_mem_nil, or_false] at hm
    rcases hm with rfl | rfl
    · exact mkH_z (by omega)
    · exact mkH_z (by omega)
theorem midS_z {hs : List Hp3} {n : Nat} (hd : ∀ g ∈ hs, Dir g) (hg : ∀ g ∈ hs, HZ n g) {x0 : Ray} (hx : Rg hs x0) : zb (midS hs) ≤ 4 * n + 14 := by
  have z0 : zb (0 : Rat) = 2 := zb0
  have zh := midH_z hd hg hx
  obtain ⟨y, hy⟩ := midH_in hd hx
  have hx' : Rg (atH hs (midH hs)) (midH hs, y) := atH_rg.mpr ⟨hy, rfl⟩
  have hz := atH_z hg zh (by omega)
  rcases near_pt (p := 0) (q := 1) (atH_dir (h := midH hs) hd) hx' with h | ⟨c, hc, e⟩
  · show zb (nearest (infF 0 1 (atH hs (midH hs))) (supF 0 1 (atH hs (midH hs)))) ≤ _
    rw [h]
    omega
  · show zb (nearest (infF 0 1 (atH hs (midH hs))) (supF 0 1 (atH hs (midH hs)))) ≤ _
    rw [← e, lin01]
    have := (pts_z (atH_dir (h := midH hs) hd) hz c hc).2
    omega
section
variable {st : List Cell} {Q : Vl → List Cell → Prop}
end
end PG

set_option maxRecDepth 100000
set_option maxHeartbeats 4000000

namespace PG
open PySem PySem.Spec PyProof.Rows L2 RT
section
variable {st : List Cell} {Q : Vl → List Cell → Prop}
theorem lout3_t {N n : Nat} {es : List El} {r0 : Ray} (T : Tz N es) (h1 : zb r0.1 ≤ n) (h2 : zb r0.2 ≤ n) (hn : 3 * N + 2 * n ≤ 10000000) (h : Q (.d (rayD (appM (transfer es) r0))) st) : sp__law_out_2 [.d (.lst (es.map elD)), .d (rayD r0)] st Q := by
  unfold sp__law_out_2
  refine ⟨rfl, ?_⟩
  let S : Ray → Option Vl → M := fun r z => ⟨[some (.d (.lst (es.map elD))), some (.d (rayD r)), z], st⟩
  refine seq_mid (fun m => ∃ z, m = S (appM (transfer es) r0) z) (fun K hK => ?_) ?_
  · refine each_inv (lk := none) elD (fun q m => ∃ (done : List El) (z : Option Vl), es = done ++ q ∧ m = S (appM (transfer done) r0) z) (fun _ _ _ => trivial) ?_ ?_ es _ ⟨[], none, rfl, by rw [show appM (transfer []) r0 = r0 from app_id r0]; rfl⟩
    · rintro e q _ K2 hK2 ⟨done, z, e1, rfl⟩
      have hm : e ∈ es := by
        rw [e1]
        exact List.mem_append_right _ List.mem_cons_self
      obtain ⟨y1, y2⟩ := app_z (T.pref e1) h1 h2
      refine lgo3_ok (n := N) (k := 3 * N + 2 * n) (T.el e hm).ez (by omega) y1 y2 hn ?_
      refine hK2 _ ⟨done ++ [e], some (.d (elD e)), by rw [e1, List.append_assoc]; rfl, ?_⟩
      rw [transfer_append, transfer_one, app_comp, app_el]
      rfl
    · rintro _ ⟨done, z, e1, rfl⟩
      rw [List.append_nil] at e1
      exact hK _ ⟨z, by rw [e1]⟩
  rintro _ ⟨z, rfl⟩
  exact PG.tk h
theorem lmap3_t {N : Nat} {es : List El} (T : Tz N es) (hN : N ≤ 1000000) (h : Q (.d (mpD (transfer es))) st) : sp__law_map_2 [.d (.lst (es.map elD))] st Q := by
  unfold sp__law_map_2
  refine ⟨rfl, ?_⟩
  let S : Option Vl → Option Vl → Option Vl → Option Vl → Option Vl → M := fun z1 z2 z3 z4 z5 => ⟨[some (.d (.lst (es.map elD))), z1, z2, z3, z4, z5], st⟩
  have mz := T.all
  have go : ∀ (a b : Rat), (a = 0 ∨ a = 1) → (b = 0 ∨ b = 1) → (zb (appM (transfer es) (a, b)).1 ≤ 3 * N + 4 ∧ zb (appM (transfer es) (a, b)).2 ≤ 3 * N + 4) ∧ ∀ {st : List Cell} {Q : Vl → List Cell → Prop}, Q (.d (rayD (appM (transfer es) (a, b)))) st → sp__law_out_2 [.d (.lst (es.map elD)), .d (rayD (a, b))] st Q := fun a b ha hb => by
    have z01 : ∀ x : Rat, (x = 0 ∨ x = 1) → zb x ≤ 2 := fun x hx => by
      rcases hx with rfl | rfl
      · have : zb 0 = 2 := zb0
        omega
      · have : zb 1 = 2 := by decide +kernel
        omega
    exact ⟨app_z (n := 2) mz (z01 a ha) (z01 b hb), fun hq => lout3_t T (z01 a ha) (z01 b hb) (by omega) hq⟩
  obtain ⟨m, em⟩ : ∃ m, transfer es = m := ⟨_, rfl⟩
  rw [em] at h go
  obtain ⟨⟨a1, a2⟩, g0⟩ := go 0 0 (.inl rfl) (.inl rfl)
  obtain ⟨⟨b1, b2⟩, g1⟩ := go 1 0 (.inr rfl) (.inl rfl)
  obtain ⟨⟨c1, c2⟩, g2⟩ := go 0 1 (.inl rfl) (.inr rfl)
  refine seq_to (S (some (.d (rayD (appM m (0, 0))))) none none none none) (fun K hK => ⟨lineN rfl, lineN rfl, lineN rfl, g0 hK⟩) ?_
  refine seq_to (S (some (.d (rayD (appM m (0, 0))))) (some (.d (rayD (appM m (1, 0))))) none none none) (fun K hK => ⟨lineN rfl, lineN rfl, lineN rfl, g1 hK⟩) ?_
  refine seq_to (S (some (.d (rayD (appM m (0, 0))))) (some (.d (rayD (appM m (1, 0))))) (some (.d (rayD (appM m (0, 1))))) none none) (fun K hK => ⟨lineN rfl, lineN rfl, lineN rfl, g2 hK⟩) ?_
  have ea : (appM m (1, 0)).1 - (appM m (0, 0)).1 = m.a := by unfold appM; grind
  have eb : (appM m (0, 1)).1 - (appM m (0, 0)).1 = m.b := by unfold appM; grind
  have ec : (appM m (1, 0)).2 - (appM m (0, 0)).2 = m.c := by unfold appM; grind
  have ed : (appM m (0, 1)).2 - (appM m (0, 0)).2 = m.d := by unfold appM; grind
  have e0 : appM m (0, 0) = (m.e, m.f) := by
    unfold appM
    exact Prod.ext (by grind) (by grind)
  refine seq_to (S (some (.d (rayD (appM m (0, 0))))) (some (.d (rayD (appM m (1, 0))))) (some (.d (rayD (appM m (0, 1))))) (some (.d (.tup [fr m.a, fr m.b]))) none) (fun K hK => ?_) ?_
  · refine lsub3_ok (x := (appM m (1, 0)).1) (y := (appM m (0, 0)).1) (zm (by omega)) ?_
    refine lsub3_ok (x := (appM m (0, 1)).1) (y := (appM m (0, 0)).1) (zm (by omega)) ?_
    rw [ea, eb]
    exact ⟨lineN rfl, hK⟩
  refine seq_to (S (some (.d (rayD (appM m (0, 0))))) (some (.d (rayD (appM m (1, 0))))) (some (.d (rayD (appM m (0, 1))))) (some (.d (.tup [fr m.a, fr m.b]))) (some (.d (.tup [fr m.c, fr m.d])))) (fun K hK => ?_) ?_
  · refine lsub3_ok (x := (appM m (1, 0)).2) (y := (appM m (0, 0)).2) (zm (by omega)) ?_
    refine lsub3_ok (x := (appM m (0, 1)).2) (y := (appM m (0, 0)).2) (zm (by omega)) ?_
    rw [ec, ed]
    exact ⟨lineN rfl, hK⟩
  rw [e0]
  exact ⟨lineN rfl, lineN rfl, PG.tk h⟩
theorem ledges3_t {N : Nat} {es : List El} (hT : Tz N es) (hN : N ≤ 100000) (hl : es.length ≤ 1000) (h : Q (.d (.lst ((planesOf 0 idM es).map ehD))) st) : sp__law_edges [.d (.lst (es.map elD))] st Q := by
  unfold sp__law_edges
  refine ⟨rfl, ?_⟩
  let S : List (Ed × Hp3) → Option Vl → Option Vl → Option Vl → Option Vl → Option Vl → Option Vl → Option Vl → Option Vl → M := fun acc z2 z3 a b c d e f => ⟨[some (.d (.lst (es.map elD))), some (.c st.length), z2, z3, a, b, c, d, e, f], st ++ [Cell.lst (acc.map ehD)]⟩
  refine seq_to (S [] none none none none none none none none) (fun K hK => ⟨lineN rfl, hK⟩) ?_
  refine seq_mid (fun m => ∃ z2 z3 a b c d e f, m = S (planesOf 0 idM es) z2 z3 a b c d e f) (fun K0 hK0 => ?_) ?_
  · refine ⟨⟨by rw [List.length_map]; omega, by rw [List.length_map]; omega⟩, ?_⟩
    rw [List.length_map]
    refine range_inv (fun n lo m => ∃ done rest z2 z3 a b c d e f, es = done ++ rest ∧ n = rest.length ∧ lo = (done.length : Int) ∧ m = S (planesOf 0 idM done) z2 z3 a b c d e f) ?_ ?_ _ 0 _ ⟨[], es, none, none, none, none, none, none, none, none, rfl, by simp, rfl, rfl⟩
    · rintro n lo _ K2 hK2 ⟨done, rest, z2, z3, a, b, c, d, e, f, e1, hn, rfl, rfl⟩
      cases rest with
      | nil => simp at hn
      | cons el rest =>
        have hm : el ∈ es := by
          rw [e1]
          exact List.mem_append_right _ List.mem_cons_self
        have hat : atI (es.map elD) (done.length : Int) = some (elD el) := atI_map (f := elD) (by rw [e1]; simp)
        have hlen : es.length = done.length + (el :: rest).length := by rw [e1, List.length_append]
        rw [List.length_cons] at hlen
        have hpl := planesOf_len 0 idM done
        have dt : det (transfer done) = 1 := hT.dt e1
        have mz : MZ N (transfer done) := hT.pref e1
        have fin : ∀ {acc} {z2 z3 a b c d e f}, acc = planesOf 0 idM (done ++ [el]) → K2 (S acc z2 z3 a b c d e f) := fun {acc z2 z3 a b c d e f} hc => by
          refine hK2 _ ⟨done ++ [el], rest, z2, z3, a, b, c, d, e, f, by rw [e1, List.append_assoc]; rfl, by simpa using hn, by rw [List.length_append, List.length_singleton]; push_cast; rfl, by rw [hc]⟩
        rw [planesOf_snoc, Nat.zero_add, comp_id] at fin
        have no : edgesAt done.length el (transfer done) = [] → K2 (S (planesOf 0 idM done) (some (.d (.int done.length))) (some (.d (elD el))) a b c d e f) := fun h => fin (by rw [h, List.append_nil])
        refine seq_to (S (planesOf 0 idM done) (some (.d (.int done.length))) (some (.d (elD el))) a b c d e f) (fun K hK => rIx_mk hat hK) ?_
        cases el with
        | gap g => exact ⟨s_gap, s_stop, str_ne ne_gs (no rfl)⟩
        | lens g c => exact ⟨s_lens, s_stop, str_ne ne_ls (no rfl)⟩
        | prism g => exact ⟨s_prism, s_stop, str_ne ne_ps (no rfl)⟩
        | afocal g => exact ⟨s_afocal, s_stop, str_ne ne_as (no rfl)⟩
        | stop lo hi =>
          have zz := hT.el _ hm
          refine ⟨s_stop, s_stop, str_eq ?_⟩
          obtain ⟨m, em⟩ : ∃ m, transfer done = m := ⟨_, rfl⟩
          rw [em] at fin dt mz
          have h0 := nz_of_det dt
          obtain ⟨⟨za, zb', zc⟩, zd, ze, zf⟩ := mz
          let T : List (Ed × Hp3) → M := fun acc => S acc (some (.d (.int done.length))) (some (.d (elD (.stop lo hi)))) (some (.d (fr m.a))) (some (.d (fr m.b))) (some (.d (fr m.c))) (some (.d (fr m.d))) (some (.d (fr m.e))) (some (.d (fr m.f)))
          refine seq_to (T (planesOf 0 idM done)) (fun K hK => ?_) ?_
          · show sp__law_map_2 [.d (.lst (RT.cutD (es.map elD) none (some (done.length : Int))))] _ _
            rw [cut_take _ _ (by rw [List.length_map]; omega), ← List.map_take, e1, List.take_left]
            have Td : Tz N done := by
              have := hT.tk done.length
              rw [e1, List.take_left] at this
              exact this
            refine lmap3_t Td (by omega) ?_
            rw [em]
            exact ⟨rfl, hK⟩
          have fin' := fin (acc := planesOf 0 idM done ++ edgesAt done.length (.stop lo hi) m) (z2 := some (.d (.int done.length))) (z3 := some (.d (elD (.stop lo hi)))) (a := some (.d (fr m.a))) (b := some (.d (fr m.b))) (c := some (.d (fr m.c))) (d := some (.d (fr m.d))) (e := some (.d (fr m.e))) (f := some (.d (fr m.f))) rfl
          refine seq_to (T (planesOf 0 idM done ++ lowE done.length lo m)) (fun K hK => ?_) ?_
          · cases lo with
            | none =>
              rw [show planesOf 0 idM done ++ lowE done.length none m = planesOf 0 idM done from List.append_nil _] at hK
              exact hK
            | some l =>
              have w := zb_sub m.e l
              have hl' := zz.1 l rfl
              refine ifs_t (T (planesOf 0 idM done)) (fun K2 h2 => h2) ?_
              refine append_st (k := st.length) (xs := (planesOf 0 idM done).map ehD) (ehD ((done.length, false), mkH (-m.a) (-m.b) (m.e - l))) ?_ ?_ (fun C hC => ?_) (small_lt (by rw [List.length_map]; omega)) ?_
              · rfl
              · exact getElem_last _ _
              · refine ⟨lineN rfl, ?_⟩
                refine lneg_ok ?_
                refine lneg_ok ?_
                refine lsub3_ok (x := m.e) (y := l) (zm (by omega)) ?_
                refine lplane3_ok (fun z => h0 ⟨by grind, by grind⟩) (by rw [zb_neg]; omega) (by rw [zb_neg]; omega) (by omega) ?_
                exact ⟨lineN rfl, hC⟩
              · dsimp only
                show K ⟨_, (st ++ [_]).set st.length _⟩
                rw [set_last]
                dsimp only [T, S] at hK
                rw [List.map_append] at hK
                exact hK
          have el2 : (lowE done.length lo m).length ≤ 1 := by cases lo <;> exact Nat.le_of_ble_eq_true rfl
          cases hi with
          | none =>
            rw [show edgesAt done.length (.stop lo none) m = lowE done.length lo m from List.append_nil _] at fin'
            exact fin'
          | some l =>
            have w := zb_sub l m.e
            have hl' := zz.2 l rfl
            refine ifs_t (T (planesOf 0 idM done ++ lowE done.length lo m)) (fun K2 h2 => h2) ?_
            refine append_st (k := st.length) (xs := (planesOf 0 idM done ++ lowE done.length lo m).map ehD) (ehD ((done.length, true), mkH m.a m.b (l - m.e))) ?_ ?_ (fun C hC => ?_) (small_lt (by rw [List.length_map, List.length_append]; omega)) ?_
            · rfl
            · exact getElem_last _ _
            · refine ⟨lineN rfl, ?_⟩
              refine lsub3_ok (x := l) (y := m.e) (zm (by omega)) ?_
              refine lplane3_ok h0 (by omega) (by omega) (by omega) ?_
              exact ⟨lineN rfl, hC⟩
            · dsimp only
              show K2 ⟨_, (st ++ [_]).set st.length _⟩
              rw [set_last]
              have e : edgesAt done.length (.stop lo (some l)) m = lowE done.length lo m ++ [((done.length, true), mkH m.a m.b (l - m.e))] := rfl
              rw [e, ← List.append_assoc] at fin'
              dsimp only [S] at fin'
              rw [List.map_append (l₁ := planesOf 0 idM done ++ lowE done.length lo m)] at fin'
              exact fin'
    · rintro lo m ⟨done, rest, z2, z3, a, b, c, d, e, f, e1, hn, rfl, rfl⟩
      have : rest = [] := List.length_eq_zero_iff.mp hn.symm
      subst this
      rw [List.append_nil] at e1
      exact hK0 _ ⟨_, _, _, _, _, _, _, _, by rw [e1]⟩
  rintro _ ⟨z2, z3, a, b, c, d, e, f, rfl⟩
  refine Eq.mp (if_neg (Nat.lt_irrefl _)).symm (onC_mk (getElem_last _ _) ?_)
  show Q _ ((st ++ [_]).take st.length)
  rw [List.take_left]
  exact h
theorem lplanes3_t {N : Nat} {es : List El} (T : Tz N es) (hN : N ≤ 100000) (hl : es.length ≤ 1000) (h : Q (.d (.lst (((planesOf 0 idM es).map (·.2)).map hpD))) st) : sp__law_planes_3 [.d (.lst (es.map elD))] st Q := by
  unfold sp__law_planes_3
  refine ⟨rfl, ?_⟩
  have hpl := planesOf_len 0 idM es
  refine dlc_map ehD (fun x => hpD x.2) (xs := planesOf 0 idM es) (fun K2 h2 => ledges3_t T hN hl h2) (fun x _ C hC => ?_) (by omega) ?_
  · exact hC _
  rw [List.map_map] at h
  exact PG.tk h
theorem lsampleX_ok {hs : List Hp3} {n : Nat} (hd : ∀ g ∈ hs, Dir g) (hg : ∀ g ∈ hs, HZ n g) (h2 : 2 ≤ n) (hn : n ≤ 20000) (hl : hs.length ≤ 90) (he : emptyB hs = false) (h : Q (.d (rayD (midH hs, midS hs))) st) : sp__law_sample [.d (.lst (hs.map hpD))] st Q := by
  have z1 : zb (1 : Rat) = 2 := by decide +kernel
  have z1' : zb (-1 : Rat) = 2 := by decide +kernel
  have z0 : zb (0 : Rat) = 2 := zb0
  have n01 : ¬ ((0 : Rat) = 0 ∧ (1 : Rat) = 0) := fun z => absurd z.2 (by decide)
  obtain ⟨x0, hx0⟩ := not_empty hd he
  have zh := midH_z hd hg hx0
  have zn := zb_neg (midH hs)
  obtain ⟨y, hy⟩ := midH_in hd hx0
  have hx' : Rg (atH hs (midH hs)) (midH hs, y) := atH_rg.mpr ⟨hy, rfl⟩
  have he' := empty_of (atH_dir (h := midH hs) hd) hx'
  have hz' := atH_z hg zh (by omega)
  unfold sp__law_sample
  refine ⟨rfl, ?_⟩
  let S : Option Vl → Option Vl → M := fun a b => ⟨[some (.d (.lst (hs.map hpD))), a, b], st⟩
  refine seq_to (S (some (.d (fr (midH hs)))) none) (fun K hK => ?_) ?_
  · refine ⟨lineN rfl, lineN rfl, ?_⟩
    refine lbounds_ok (p := 1) (q := 0) (n := n) n10 (by omega) (by omega) hg h2 (by omega) (by omega) ?_
    rw [bnd2 hd n10 he]
    exact lnear2_ok hK
  refine seq_to (S (some (.d (fr (midH hs)))) (some (.d (.lst ([mkH 1 0 (midH hs), mkH (-1) 0 (-(midH hs))].map hpD))))) (fun K hK => ?_) ?_
  · refine ⟨lineN rfl, lineN rfl, ?_⟩
    refine lplane3_ok (p := 1) (q := 0) (r := midH hs) n10 (by omega) (by omega) (by omega) ?_
    refine ⟨lineN rfl, lineN rfl, ?_⟩
    refine lneg_ok ?_
    refine lplane3_ok (p := -1) (q := 0) (r := -(midH hs)) nm10 (by omega) (by omega) (by omega) ?_
    exact ⟨lineN rfl, hK⟩
  refine ⟨?_, lineN rfl, lineN rfl, ?_⟩
  · rw [List.length_map]
    refine Nat.le_of_lt (small_lt ?_)
    show hs.length + 2 < _
    omega
  rw [← List.map_append]
  refine lbounds_ok (p := 0) (q := 1) (n := 2 * n + 2 + 4) n01 (by omega) (by omega) hz' (by omega) (by omega) (by rw [List.length_append]; show hs.length + 2 ≤ 100; omega) ?_
  rw [show hs ++ [mkH 1 0 (midH hs), mkH (-1) 0 (-(midH hs))] = atH hs (midH hs) from rfl, bnd2 (atH_dir hd) n01 he']
  refine lnear2_ok ?_
  exact ⟨lineN rfl, PG.tk h⟩
end
end PG

set_option maxRecDepth 100000
set_option maxHeartbeats 4000000

namespace PG
open PySem PySem.Spec PyProof.Rows L2 RT
abbrev CE := Ed × Rat × Mp
def lowC (k : Nat) (lo : Option Rat) (m : Mp) : List CE := match lo with
  | none => []
  | some l => [((k, false), l, m)]
def uppC (k : Nat) (hi : Option Rat) (m : Mp) : List CE := match hi with
  | none => []
  | some u => [((k, true), u, m)]
def cAt (k : Nat) (e : El) (m : Mp) : List CE := match e with
  | .stop lo hi => lowC k lo m ++ uppC k hi m
  | _ => []
def cEd : Nat → Mp → List El → List CE
  | _, _, [] => []
  | k, m, e :: es => cAt k e m ++ cEd (k + 1) (comp m (elM e)) es
def heD (x : CE) : Dt := .tup [edD x.1, fr x.2.1]
def clr (x : CE) (r : Ray) : Rat := if x.1.2 = true then x.2.1 - (appM x.2.2 r).1 else (appM x.2.2 r).1 - x.2.1
def cv (rays : List Ray) (x : CE) : Rat := (least (rays.map fun r => some (clr x r))).getD 0
def cvD (rays : List Ray) (x : CE) : Dt := .tup [edD x.1, fr (cv rays x)]
theorem cAt_len (k : Nat) (e : El) (m : Mp) : (cAt k e m).length ≤ 2 := by
  cases e with
  | stop lo hi => cases lo <;> cases hi <;> exact Nat.le_of_ble_eq_true rfl
  | _ => exact Nat.zero_le _
theorem cEd_len : ∀ (k : Nat) (m : Mp) (es : List El), (cEd k m es).length ≤ 2 * es.length
  | _, _, [] => Nat.le_refl _
  | k, m, e :: es => by
    show (cAt k e m ++ cEd (k + 1) (comp m (elM e)) es).length ≤ _
    rw [List.length_append, List.length_cons]
    have := cAt_len k e m
    have := cEd_len (k + 1) (comp m (elM e)) es
    omega
theorem cEd_snoc : ∀ (k : Nat) (m : Mp) (es : List El) (e : El), cEd k m (es ++ [e]) = cEd k m es ++ cAt (k + es.length) e (comp m (transfer es))
  | k, m, [], e => by
    show cAt k e m ++ [] = [] ++ cAt (k + 0) e (comp m idM)
    rw [List.append_nil, List.nil_append, Nat.add_zero, id_comp]
  | k, m, x :: es, e => by
    show cAt k x m ++ cEd (k + 1) (comp m (elM x)) (es ++ [e]) = cAt k x m ++ cEd (k + 1) (comp m (elM x)) es ++ cAt (k + (es.length + 1)) e (comp m (transfer (x :: es)))
    rw [cEd_snoc, List.append_assoc, show k + (es.length + 1) = k + 1 + es.length by omega, transfer_cons, comp_assoc]
theorem cEd_mem : ∀ (es : List El) (k : Nat) (m : Mp) (x : CE), x ∈ cEd k m es → ∃ j lo hi, es[j]? = some (.stop lo hi) ∧ x.1.1 = k + j ∧ x.2.2 = comp m (transfer (es.take j)) ∧ (lo = some x.2.1 ∨ hi = some x.2.1)
  | [], _, _, _, h => nomatch h
  | e :: es, k, m, x, h => by
    rcases List.mem_append.mp (show x ∈ cAt k e m ++ cEd (k + 1) (comp m (elM e)) es from h) with h | h
    · have hc : comp m (transfer ((e :: es).take 0)) = m := id_comp m
      cases e with
      | stop lo hi =>
        rcases List.mem_append.mp (show x ∈ lowC k lo m ++ uppC k hi m from h) with h | h
        · cases lo with
          | none => exact nomatch h
          | some l =>
            rw [show x = _ from List.mem_singleton.mp h]
            exact ⟨0, some l, hi, rfl, rfl, hc.symm, .inl rfl⟩
        · cases hi with
          | none => exact nomatch h
          | some l =>
            rw [show x = _ from List.mem_singleton.mp h]
            exact ⟨0, lo, some l, rfl, rfl, hc.symm, .inr rfl⟩
      | _ => exact nomatch h
    · obtain ⟨j, lo, hi, h1, h2, h3, h4⟩ := cEd_mem es (k + 1) _ x h
      refine ⟨j + 1, lo, hi, h1, by omega, ?_, h4⟩
      rw [List.take_succ_cons, transfer_cons, h3, comp_assoc]
structure CeIn (N : Nat) (es : List El) (x : CE) : Prop where
  lt : x.1.1 < es.length
  mp : x.2.2 = transfer (es.take x.1.1)
  mz : MZ N x.2.2
  hz : zb x.2.1 ≤ N
theorem cEd_in {N : Nat} {es : List El} (T : Tz N es) {x : CE} (h : x ∈ cEd 0 idM es) : CeIn N es x := by
  obtain ⟨j, lo, hi, h1, h2, h3, h4⟩ := cEd_mem es 0 idM x h
  rw [Nat.zero_add] at h2
  rw [comp_id] at h3
  have hm := List.mem_of_getElem? h1
  have hj : j < es.length := (List.getElem?_eq_some_iff.mp h1).1
  have zz := T.el _ hm
  refine ⟨by omega, by rw [h2]; exact h3, by rw [h3]; exact T.pre j, ?_⟩
  rcases h4 with h | h
  · exact zz.1 _ h
  · exact zz.2 _ h
theorem clr_z {N n : Nat} {es : List El} {x : CE} {r : Ray} (hx : CeIn N es x) (h1 : zb r.1 ≤ n) (h2 : zb r.2 ≤ n) : zb (clr x r) ≤ 4 * N + 2 * n := by
  have := (app_z hx.mz h1 h2).1
  have := hx.hz
  have a := zb_sub x.2.1 (appM x.2.2 r).1
  have b := zb_sub (appM x.2.2 r).1 x.2.1
  unfold clr
  split <;> omega
theorem least_ex : ∀ {l : List Rat}, l ≠ [] → ∃ s, least (l.map some) = some s
  | [], h => absurd rfl h
  | x :: r, _ => by
    cases e : least ((x :: r).map some) with
    | none => exact absurd (least_none e (some x) List.mem_cons_self) (by simp)
    | some s => exact ⟨s, rfl⟩
theorem cv_least {rays : List Ray} (hne : rays ≠ []) (x : CE) : least (rays.map fun r => some (clr x r)) = some (cv rays x) := by
  have : rays.map (fun r => clr x r) ≠ [] := fun h => hne (List.map_eq_nil_iff.mp h)
  obtain ⟨s, e⟩ := least_ex this
  rw [List.map_map] at e
  have e' : least (rays.map fun r => some (clr x r)) = some s := e
  unfold cv
  rw [e']
  rfl
theorem cv_spec {rays : List Ray} (hne : rays ≠ []) (x : CE) : (∃ r ∈ rays, clr x r = cv rays x) ∧ ∀ r ∈ rays, cv rays x ≤ clr x r := by
  obtain ⟨h1, h2⟩ := least_some (cv_least hne x)
  obtain ⟨r, hr, e⟩ := List.mem_map.mp h1
  exact ⟨⟨r, hr, Option.some.inj e⟩, fun r hr => h2 _ (List.mem_map.mpr ⟨r, hr, rfl⟩)⟩
theorem cv_z {N n : Nat} {es : List El} {x : CE} {rays : List Ray} (hne : rays ≠ []) (hx : CeIn N es x) (hr : ∀ r ∈ rays, zb r.1 ≤ n ∧ zb r.2 ≤ n) : zb (cv rays x) ≤ 4 * N + 2 * n := by
  obtain ⟨⟨r, hm, e⟩, _⟩ := cv_spec hne x
  rw [← e]
  exact clr_z hx (hr r hm).1 (hr r hm).2
theorem cv_low {rays : List Ray} (hne : rays ≠ []) {x : CE} (hu : x.1.2 = false) : ∃ s, least ((rays.map fun r => (appM x.2.2 r).1).map some) = some s ∧ s - x.2.1 = cv rays x := by
  have hn : rays.map (fun r => (appM x.2.2 r).1) ≠ [] := fun h => hne (List.map_eq_nil_iff.mp h)
  obtain ⟨s, e⟩ := least_ex hn
  obtain ⟨h1, h2⟩ := least_some e
  obtain ⟨⟨r, hr, er⟩, hle⟩ := cv_spec hne x
  have ec : ∀ r, clr x r = (appM x.2.2 r).1 - x.2.1 := fun r => if_neg (by rw [hu]; exact Bool.false_ne_true)
  rw [List.map_map] at h1 h2
  obtain ⟨r', hr', er'⟩ := List.mem_map.mp h1
  have er' := Option.some.inj er'
  have a := hle r' hr'
  have b := h2 (appM x.2.2 r).1 (List.mem_map.mpr ⟨r, hr, rfl⟩)
  rw [ec] at er a
  dsimp only at er'
  exact ⟨s, e, by grind⟩
theorem cv_upp {rays : List Ray} (hne : rays ≠ []) {x : CE} (hu : x.1.2 = true) : ∃ s, greatest ((rays.map fun r => (appM x.2.2 r).1).map some) = some s ∧ x.2.1 - s = cv rays x := by
  have hn : rays.map (fun r => (appM x.2.2 r).1) ≠ [] := fun h => hne (List.map_eq_nil_iff.mp h)
  have ex : ∃ s, greatest ((rays.map fun r => (appM x.2.2 r).1).map some) = some s := by
    cases e : greatest ((rays.map fun r => (appM x.2.2 r).1).map some) with
    | some s => exact ⟨s, rfl⟩
    | none =>
      obtain ⟨y, hy⟩ := List.exists_mem_of_ne_nil _ hn
      exact absurd (greatest_none e (some y) (List.mem_map.mpr ⟨y, hy, rfl⟩)) (by simp)
  obtain ⟨s, e⟩ := ex
  obtain ⟨h1, h2⟩ := greatest_some e
  obtain ⟨⟨r, hr, er⟩, hle⟩ := cv_spec hne x
  have ec : ∀ r, clr x r = x.2.1 - (appM x.2.2 r).1 := fun r => if_pos hu
  rw [List.map_map] at h1 h2
  obtain ⟨r', hr', er'⟩ := List.mem_map.mp h1
  have er' := Option.some.inj er'
  have a := hle r' hr'
  have b := h2 (appM x.2.2 r).1 (List.mem_map.mpr ⟨r, hr, rfl⟩)
  rw [ec] at er a
  dsimp only at er'
  exact ⟨s, e, by grind⟩

theorem exit_clr : ∀ (es : List El) (k : Nat) (m : Mp) (r : Ray), (exitR es (appM m r)).isSome = true ↔ ∀ x ∈ cEd k m es, 0 ≤ clr x r
  | [], k, m, r => by
    show true = true ↔ ∀ x ∈ [], _
    simp
  | e :: es, k, m, r => by
    have ih := exit_clr es (k + 1) (comp m (elM e)) r
    rw [app_comp, app_el] at ih
    have hb : blocks e (appM m r) = false ↔ ∀ x ∈ cAt k e m, 0 ≤ clr x r := by
      cases e with
      | stop lo hi =>
        have hl : blo lo (appM m r).1 = false ↔ ∀ x ∈ lowC k lo m, 0 ≤ clr x r := by
          cases lo with
          | none => exact ⟨fun _ x hx => (nomatch hx), fun _ => rfl⟩
          | some l =>
            show decide ((appM m r).1 < l) = false ↔ ∀ x ∈ [_], _
            rw [decide_eq_false_iff_not, List.forall_mem_singleton]
            show _ ↔ 0 ≤ (appM m r).1 - l
            constructor <;> intro h <;> grind
        have hh : bhi hi (appM m r).1 = false ↔ ∀ x ∈ uppC k hi m, 0 ≤ clr x r := by
          cases hi with
          | none => exact ⟨fun _ x hx => (nomatch hx), fun _ => rfl⟩
          | some l =>
            show decide (l < (appM m r).1) = false ↔ ∀ x ∈ [_], _
            rw [decide_eq_false_iff_not, List.forall_mem_singleton]
            show _ ↔ 0 ≤ l - (appM m r).1
            constructor <;> intro h <;> grind
        show (blo lo (appM m r).1 || bhi hi (appM m r).1) = false ↔ ∀ x ∈ lowC k lo m ++ uppC k hi m, _
        rw [Bool.or_eq_false_iff, hl, hh, List.forall_mem_append]
      | gap g => exact ⟨fun _ x hx => (nomatch hx), fun _ => rfl⟩
      | lens g c => exact ⟨fun _ x hx => (nomatch hx), fun _ => rfl⟩
      | prism g => exact ⟨fun _ x hx => (nomatch hx), fun _ => rfl⟩
      | afocal g => exact ⟨fun _ x hx => (nomatch hx), fun _ => rfl⟩
    show (exitR (e :: es) (appM m r)).isSome = true ↔ ∀ x ∈ cAt k e m ++ cEd (k + 1) (comp m (elM e)) es, 0 ≤ clr x r
    rw [List.forall_mem_append, ← hb, ← ih]
    show (if blocks e (appM m r) = true then none else exitR es (behind e (appM m r))).isSome = true ↔ _
    cases blocks e (appM m r) with
    | true => simp
    | false => simp
section
variable {st : List Cell} {Q : Vl → List Cell → Prop}
theorem edges2_ok {es : List El} (hl : es.length ≤ 1000) (h : Q (.d (.lst ((cEd 0 idM es).map heD))) st) : sp_edges_of_2 [.d (.lst (es.map elD))] st Q := by
  unfold sp_edges_of_2
  refine ⟨rfl, ?_⟩
  let S : List CE → Option Vl → Option Vl → M := fun acc z2 z3 => ⟨[some (.d (.lst (es.map elD))), some (.c st.length), z2, z3], st ++ [Cell.lst (acc.map heD)]⟩
  refine seq_to (S [] none none) (fun K hK => ⟨lineN rfl, hK⟩) ?_
  refine seq_mid (fun m => ∃ z2 z3, m = S (cEd 0 idM es) z2 z3) (fun K0 hK0 => ?_) ?_
  · refine enum_inv (fun k rest m => ∃ done z2 z3, es = done ++ rest ∧ k = done.length ∧ m = S (cEd 0 idM done) z2 z3) ?_ ?_ _ 0 _ ⟨[], none, none, rfl, rfl, rfl⟩
    · rintro k e rest m K hK ⟨done, z2, z3, e1, rfl, rfl⟩
      have hlen : es.length = done.length + (e :: rest).length := by rw [e1, List.length_append]
      rw [List.length_cons] at hlen
      have hpl := cEd_len 0 idM done
      have fin : ∀ {acc}, acc = cEd 0 idM (done ++ [e]) → K (S acc (some (.d (.int done.length))) (some (.d (elD e)))) := fun {acc} hc => by
        refine hK _ ⟨done ++ [e], _, _, by rw [e1, List.append_assoc]; rfl, by rw [List.length_append, List.length_singleton], by rw [hc]⟩
      rw [cEd_snoc, Nat.zero_add, comp_id] at fin
      have no : cAt done.length e (transfer done) = [] → K (S (cEd 0 idM done) (some (.d (.int done.length))) (some (.d (elD e)))) := fun h => fin (by rw [h, List.append_nil])
      cases e with
      | gap g => exact ⟨s_gap, s_stop, str_ne ne_gs (no rfl)⟩
      | lens g c => exact ⟨s_lens, s_stop, str_ne ne_ls (no rfl)⟩
      | prism g => exact ⟨s_prism, s_stop, str_ne ne_ps (no rfl)⟩
      | afocal g => exact ⟨s_afocal, s_stop, str_ne ne_as (no rfl)⟩
      | stop lo hi =>
        refine ⟨s_stop, s_stop, str_eq ?_⟩
        let T : List CE → M := fun acc => S acc (some (.d (.int done.length))) (some (.d (elD (.stop lo hi))))
        have fin' : K (T (cEd 0 idM done ++ (lowC done.length lo (transfer done) ++ uppC done.length hi (transfer done)))) := fin rfl
        rw [← List.append_assoc] at fin'
        refine seq_to (T (cEd 0 idM done ++ lowC done.length lo (transfer done))) (fun K2 h2 => ?_) ?_
        · cases lo with
          | none =>
            rw [show cEd 0 idM done ++ lowC done.length none (transfer done) = cEd 0 idM done from List.append_nil _] at h2
            exact h2
          | some l =>
            refine ifs_t (T (cEd 0 idM done)) (fun K2 h2 => h2) ?_
            refine append_st (k := st.length) (xs := (cEd 0 idM done).map heD) (heD ((done.length, false), l, transfer done)) ?_ ?_ (fun C hC => ?_) (small_lt (by rw [List.length_map]; omega)) ?_
            · rfl
            · exact getElem_last _ _
            · exact ⟨lineN rfl, lineN rfl, hC⟩
            · dsimp only
              show K2 ⟨_, (st ++ [_]).set st.length _⟩
              rw [set_last]
              dsimp only [T, S] at h2
              rw [List.map_append] at h2
              exact h2
        have el2 : (lowC done.length lo (transfer done)).length ≤ 1 := by cases lo <;> exact Nat.le_of_ble_eq_true rfl
        cases hi with
        | none =>
          rw [show cEd 0 idM done ++ lowC done.length lo (transfer done) ++ uppC done.length none (transfer done) = cEd 0 idM done ++ lowC done.length lo (transfer done) from List.append_nil _] at fin'
          exact fin'
        | some l =>
          refine ifs_t (T (cEd 0 idM done ++ lowC done.length lo (transfer done))) (fun K2 h2 => h2) ?_
          refine append_st (k := st.length) (xs := (cEd 0 idM done ++ lowC done.length lo (transfer done)).map heD) (heD ((done.length, true), l, transfer done)) ?_ ?_ (fun C hC => ?_) (small_lt (by rw [List.length_map, List.length_append]; omega)) ?_
          · rfl
          · exact getElem_last _ _
          · exact ⟨lineN rfl, lineN rfl, hC⟩
          · dsimp only
            show K ⟨_, (st ++ [_]).set st.length _⟩
            rw [set_last]
            dsimp only [T, S] at fin'
            rw [List.map_append (l₁ := cEd 0 idM done ++ lowC done.length lo (transfer done))] at fin'
            exact fin'
    · rintro k m ⟨done, z2, z3, e1, rfl, rfl⟩
      rw [List.append_nil] at e1
      exact hK0 _ ⟨_, _, by rw [e1]⟩
  rintro _ ⟨z2, z3, rfl⟩
  refine Eq.mp (if_neg (Nat.lt_irrefl _)).symm (onC_mk (getElem_last _ _) ?_)
  show Q _ ((st ++ [_]).take st.length)
  rw [List.take_left]
  exact h
theorem ne_ul : decide (("upper" : Str) = "lower") = false := by decide +kernel
theorem clearance_ok {N n : Nat} {es : List El} {x : CE} {r : Ray} (T : Tz N es) (hx : CeIn N es x) (hN : N ≤ 100000) (h1 : zb r.1 ≤ n) (h2 : zb r.2 ≤ n) (hn : n ≤ 1000000) (h : Q (.d (fr (clr x r))) st) : sp_clearance [.d (.lst (es.map elD)), .d (edD x.1), .d (fr x.2.1), .d (rayD r)] st Q := by
  obtain ⟨⟨k, up⟩, v, m⟩ := x
  have hlt : k < es.length := hx.lt
  have hm : m = transfer (es.take k) := hx.mp
  have hmz : MZ N m := hx.mz
  have hv : zb v ≤ N := hx.hz
  have az := (app_z hmz h1 h2).1
  unfold sp_clearance
  refine ⟨rfl, ?_⟩
  let S : Option Vl → M := fun z => ⟨[some (.d (.lst (es.map elD))), some (.d (edD (k, up))), some (.d (fr v)), some (.d (rayD r)), z], st⟩
  refine seq_to (S (some (.d (fr (appM m r).1)))) (fun K hK => ?_) ?_
  · show sp_ray_transfer [.d (.lst (RT.cutD (es.map elD) none (some (k : Int))))] _ _
    rw [cut_take _ _ (by rw [List.length_map]; omega), ← List.map_take]
    refine transfer_t (T.tk k) (by omega) ?_
    rw [← hm]
    refine apply_ok (n := max N n) (hmz.le (by omega)) (by omega) (by omega) (by omega) ?_
    exact hK
  cases up with
  | true =>
    have e : clr ((k, true), v, m) r = v - (appM m r).1 := rfl
    rw [e] at h
    refine guard_st (S (some (.d (fr (appM m r).1)))) (fun K hK => ⟨s_upper, s_lower, ?_⟩) ?_
    · show K (eqD (.str ("upper" : Str)) (.str ("lower" : Str))) _
      rw [eqS, ne_ul]
      exact hK
    exact subtract_ok (x := v) (y := (appM m r).1) (zm (by omega)) (PG.tk h)
  | false =>
    have e : clr ((k, false), v, m) r = (appM m r).1 - v := rfl
    rw [e] at h
    refine PG.ifs_t' (S (some (.d (fr (appM m r).1)))) (fun K hK => ⟨s_lower, s_lower, ?_⟩) ?_
    · show K (eqD (.str ("lower" : Str)) (.str ("lower" : Str))) _
      rw [eqD_self]
      exact hK
    exact subtract_ok (x := (appM m r).1) (y := v) (zm (by omega)) (PG.tk h)
theorem clearances_ok {N n : Nat} {es : List El} {rays : List Ray} (T : Tz N es) (hN : N ≤ 100000) (hr : ∀ r ∈ rays, zb r.1 ≤ n ∧ zb r.2 ≤ n) (hn : n ≤ 1000000) (hl : es.length ≤ 1000) (hrl : rays.length ≤ 1000) (hne : rays ≠ []) (h : Q (.d (.lst ((cEd 0 idM es).map (cvD rays)))) st) : sp_clearances [.d (.lst (es.map elD)), .d (.lst (rays.map rayD))] st Q := by
  unfold sp_clearances
  refine ⟨rfl, ?_⟩
  let S : M := ⟨[some (.d (.lst (es.map elD))), some (.d (.lst (rays.map rayD))), none, none, none], st⟩
  refine guard_st S (fun K hK => ?_) ?_
  · show K (!!(rays.map rayD).isEmpty) _
    have : (rays.map rayD).isEmpty = false := by
      cases rays with
      | nil => exact absurd rfl hne
      | cons a b => rfl
    rw [this]
    exact hK
  have hcl := cEd_len 0 idM es
  refine dlc_map heD (cvD rays) (xs := cEd 0 idM es) (fun K hK => edges2_ok hl hK) (fun x hx C hC => ?_) (by omega) (PG.tk h)
  have ci := cEd_in T hx
  refine ⟨rfl, ?_⟩
  refine lc_map rayD (fun r => fr (clr x r)) (xs := rays) (done := []) (fun r hrm C2 hC2 => ?_) (by rw [List.length_nil]; omega) ?_
  · exact clearance_ok T ci hN (hr r hrm).1 (hr r hrm).2 hn (hC2 _)
  · have e : rays.map (fun r => fr (clr x r)) = (rays.map fun r => some (clr x r)).map ofr := by
      rw [List.map_map]
      rfl
    rw [List.nil_append, e]
    refine best_ok (n := 4 * N + 2 * n) (fun q hq => ?_) (zm (by omega)) ?_
    · obtain ⟨r, hrm, e⟩ := List.mem_map.mp hq
      rw [← Option.some.inj e]
      exact clr_z ci (hr r hrm).1 (hr r hrm).2
    · rw [cv_least hne]
      exact ⟨lineN rfl, hC _⟩
theorem ldue5_ok {N n : Nat} {es : List El} {rays : List Ray} (T : Tz N es) (hN : N ≤ 100000) (hr : ∀ r ∈ rays, zb r.1 ≤ n ∧ zb r.2 ≤ n) (hn : n ≤ 1000000) (hl : es.length ≤ 1000) (hrl : rays.length ≤ 1000) (hne : rays ≠ []) (h : Q (.d (.lst ((cEd 0 idM es).map (cvD rays)))) st) : sp__law_due_5 [.d (.lst (es.map elD)), .d (.lst (rays.map rayD))] st Q := by
  unfold sp__law_due_5
  refine ⟨rfl, ?_⟩
  let S : List CE → Option Vl → Option Vl → M := fun acc z3 z4 => ⟨[some (.d (.lst (es.map elD))), some (.d (.lst (rays.map rayD))), some (.c st.length), z3, z4, none], st ++ [Cell.lst (acc.map (cvD rays))]⟩
  refine seq_to (S [] none none) (fun K hK => ⟨lineN rfl, hK⟩) ?_
  refine seq_mid (fun m => ∃ z3 z4, m = S (cEd 0 idM es) z3 z4) (fun K0 hK0 => ?_) ?_
  · refine ⟨⟨by rw [List.length_map]; omega, by rw [List.length_map]; omega⟩, ?_⟩
    rw [List.length_map]
    refine range_inv (fun n lo m => ∃ done rest z3 z4, es = done ++ rest ∧ n = rest.length ∧ lo = (done.length : Int) ∧ m = S (cEd 0 idM done) z3 z4) ?_ ?_ _ 0 _ ⟨[], es, none, none, rfl, by simp, rfl, rfl⟩
    · rintro n' lo' _ K2 hK2 ⟨done, rest, z3, z4, e1, hn', rfl, rfl⟩
      cases rest with
      | nil => simp at hn'
      | cons el rest =>
        have hm : el ∈ es := by
          rw [e1]
          exact List.mem_append_right _ List.mem_cons_self
        have hat : atI (es.map elD) (done.length : Int) = some (elD el) := atI_map (f := elD) (by rw [e1]; simp)
        have hlen : es.length = done.length + (el :: rest).length := by rw [e1, List.length_append]
        rw [List.length_cons] at hlen
        have hpl := cEd_len 0 idM done
        let t3 : Option Vl := some (.d (.int done.length))
        have fin : ∀ {acc z4}, acc = cEd 0 idM (done ++ [el]) → K2 (S acc t3 z4) := fun {acc z4} hc => by
          refine hK2 _ ⟨done ++ [el], rest, _, _, by rw [e1, List.append_assoc]; rfl, by simpa using hn', by rw [List.length_append, List.length_singleton]; push_cast; rfl, by rw [hc]⟩
        have sub : ∀ x ∈ cEd 0 idM (done ++ [el]), x ∈ cEd 0 idM es := fun x hx => by
          rw [e1, show done ++ el :: rest = (done ++ [el]) ++ rest by rw [List.append_assoc]; rfl]
          have app : ∀ (a b : List El) (k : Nat) (m : Mp), x ∈ cEd k m a → x ∈ cEd k m (a ++ b) := fun a => by
            induction a with
            | nil => exact fun b k m h => nomatch h
            | cons y ys ih =>
              intro b k m h
              rcases List.mem_append.mp (show x ∈ cAt k y m ++ cEd (k + 1) (comp m (elM y)) ys from h) with h | h
              · exact List.mem_append_left _ h
              · exact List.mem_append_right _ (ih b _ _ h)
          exact app _ _ _ _ hx
        rw [cEd_snoc, Nat.zero_add, comp_id] at fin sub
        have no : cAt done.length el (transfer done) = [] → K2 (S (cEd 0 idM done) t3 z4) := fun h => fin (by rw [h, List.append_nil])
        cases el with
        | gap g => exact rIx_mk hat ⟨s_gap, s_stop, str_ne ne_gs (no rfl)⟩
        | lens g c => exact rIx_mk hat ⟨s_lens, s_stop, str_ne ne_ls (no rfl)⟩
        | prism g => exact rIx_mk hat ⟨s_prism, s_stop, str_ne ne_ps (no rfl)⟩
        | afocal g => exact rIx_mk hat ⟨s_afocal, s_stop, str_ne ne_as (no rfl)⟩
        | stop lo hi =>
          refine rIx_mk hat ⟨s_stop, s_stop, str_eq ?_⟩
          obtain ⟨m, em⟩ : ∃ m, transfer done = m := ⟨_, rfl⟩
          have mz : MZ N m := by rw [← em]; exact T.pref e1
          rw [em] at fin sub
          have hts : ∀ (q : Rat), q ∈ (rays.map fun r => (appM m r).1) → zb q ≤ 3 * N + 2 * n := fun q hq => by
            obtain ⟨r, hrm, rfl⟩ := List.mem_map.mp hq
            exact (app_z mz (hr r hrm).1 (hr r hrm).2).1
          let t4 : Option Vl := some (.d (.lst ((rays.map fun r => (appM m r).1).map fr)))
          let V : List CE → M := fun acc => S acc t3 t4
          have fin' : K2 (V (cEd 0 idM done ++ (lowC done.length lo m ++ uppC done.length hi m))) := fin rfl
          rw [← List.append_assoc] at fin'
          refine seq_to (V (cEd 0 idM done)) (fun K hK => ?_) ?_
          · refine dlc_map rayD (fun r => fr (appM m r).1) (xs := rays) (fun K hK => hK) (fun r hrm C hC => ?_) (by omega) ?_
            · show sp__law_out_2 [.d (.lst (RT.cutD (es.map elD) none (some (done.length : Int)))), .d (rayD r)] _ _
              rw [cut_take _ _ (by rw [List.length_map]; omega), ← List.map_take, e1, List.take_left]
              have Td : Tz N done := by
                have := T.tk done.length
                rw [e1, List.take_left] at this
                exact this
              refine lout3_t Td (hr r hrm).1 (hr r hrm).2 (by omega) ?_
              rw [em]
              exact hC _
            · have e : rays.map (fun r => fr (appM m r).1) = (rays.map fun r => (appM m r).1).map fr := by
                rw [List.map_map]
                rfl
              rw [e]
              exact hK
          refine seq_to (V (cEd 0 idM done ++ lowC done.length lo m)) (fun K hK => ?_) ?_
          · cases lo with
            | none =>
              rw [show cEd 0 idM done ++ lowC done.length none m = cEd 0 idM done from List.append_nil _] at hK
              exact rIx_mk hat hK
            | some l =>
              have xin : CeIn N es ((done.length, false), l, m) := cEd_in T (sub _ (List.mem_append_right _ (List.mem_append_left _ List.mem_cons_self)))
              obtain ⟨s, es1, es2⟩ := cv_low hne (x := ((done.length, false), l, m)) rfl
              have sz : zb s ≤ 3 * N + 2 * n := hts s (by
                obtain ⟨a, ha, e⟩ := List.mem_map.mp (least_some es1).1
                rw [← Option.some.inj e]
                exact ha)
              have lz : zb l ≤ N := xin.hz
              refine ifs_t (V (cEd 0 idM done)) (fun K2 h2 => rIx_mk hat h2) ?_
              refine append_st (k := st.length) (xs := (cEd 0 idM done).map (cvD rays)) (cvD rays ((done.length, false), l, m)) ?_ ?_ (fun C hC => ?_) (small_lt (by rw [List.length_map]; omega)) ?_
              · rfl
              · exact getElem_last _ _
              · refine ⟨lineN rfl, ?_⟩
                refine lleast3_ok (n := 3 * N + 2 * n) hts (zm (by omega)) ?_
                rw [es1]
                refine rIx_mk hat ?_
                refine lsub3_ok (x := s) (y := l) (zm (by omega)) ?_
                rw [show s - l = cv rays ((done.length, false), l, m) from es2]
                exact ⟨lineN rfl, hC⟩
              · dsimp only
                show K ⟨_, (st ++ [_]).set st.length _⟩
                rw [set_last]
                dsimp only [V, S] at hK
                rw [List.map_append] at hK
                exact hK
          have el2 : (lowC done.length lo m).length ≤ 1 := by cases lo <;> exact Nat.le_of_ble_eq_true rfl
          cases hi with
          | none =>
            rw [show cEd 0 idM done ++ lowC done.length lo m ++ uppC done.length none m = cEd 0 idM done ++ lowC done.length lo m from List.append_nil _] at fin'
            exact rIx_mk hat fin'
          | some l =>
            have xin : CeIn N es ((done.length, true), l, m) := cEd_in T (sub _ (List.mem_append_right _ (List.mem_append_right _ List.mem_cons_self)))
            obtain ⟨s, es1, es2⟩ := cv_upp hne (x := ((done.length, true), l, m)) rfl
            have sz : zb s ≤ 3 * N + 2 * n := hts s (by
              obtain ⟨a, ha, e⟩ := List.mem_map.mp (greatest_some es1).1
              rw [← Option.some.inj e]
              exact ha)
            have lz : zb l ≤ N := xin.hz
            refine ifs_t (V (cEd 0 idM done ++ lowC done.length lo m)) (fun K2 h2 => rIx_mk hat h2) ?_
            refine append_st (k := st.length) (xs := (cEd 0 idM done ++ lowC done.length lo m).map (cvD rays)) (cvD rays ((done.length, true), l, m)) ?_ ?_ (fun C hC => ?_) (small_lt (by rw [List.length_map, List.length_append]; omega)) ?_
            · rfl
            · exact getElem_last _ _
            · refine ⟨lineN rfl, ?_⟩
              refine rIx_mk hat ?_
              refine lgreatest_ok (n := 3 * N + 2 * n) hts (zm (by omega)) ?_
              rw [es1]
              refine lsub3_ok (x := l) (y := s) (zm (by omega)) ?_
              rw [show l - s = cv rays ((done.length, true), l, m) from es2]
              exact ⟨lineN rfl, hC⟩
            · dsimp only
              show K2 ⟨_, (st ++ [_]).set st.length _⟩
              rw [set_last]
              dsimp only [V, S] at fin'
              rw [List.map_append (l₁ := cEd 0 idM done ++ lowC done.length lo m)] at fin'
              exact fin'
    · rintro lo m ⟨done, rest, z3, z4, e1, hn', rfl, rfl⟩
      have : rest = [] := List.length_eq_zero_iff.mp hn'.symm
      subst this
      rw [List.append_nil] at e1
      exact hK0 _ ⟨_, _, by rw [e1]⟩
  rintro _ ⟨z3, z4, rfl⟩
  refine Eq.mp (if_neg (Nat.lt_irrefl _)).symm (onC_mk (getElem_last _ _) ?_)
  show Q _ ((st ++ [_]).take st.length)
  rw [List.take_left]
  exact h
end
end PG

set_option maxRecDepth 100000
set_option maxHeartbeats 4000000

namespace PG
open PySem PySem.Spec PyProof.Rows L2 RT
theorem lg_le {n k : Nat} (h : n ≤ 2 ^ k) : n.log2 ≤ k := by
  by_cases h0 : n = 0
  · rw [h0]; exact Nat.zero_le _
  · have := (Nat.log2_lt h0 (k := k + 1)).mpr (by rw [Nat.pow_succ]; have := Nat.pow_pos (a := 2) (n := k) (by decide); omega)
    omega
theorem planes_z {es : List El} {j : Nat} (he : ∀ e ∈ es, ElW e) (hl : es.length ≤ j) : ∀ x ∈ planesOf 0 idM es, HZ (10 + 10 * j) x.2 := fun x hx => by
  obtain ⟨i, _, lo, hi', hs, hx⟩ := planes_mem es 0 idM x hx
  have hd : ∀ x ∈ es.take i, ElW x := fun x hx => he x (List.mem_of_mem_take hx)
  have hm := mrbw_transfer hd
  have hle : (es.take i).length ≤ j := by
    rw [List.length_take]
    omega
  have dt : det (transfer (es.take i)) = 1 := det_transfer fun x hx => (hd x hx).z.ok
  have nz := nz_of_det dt
  rw [comp_id] at hx
  have hst : ElIn (.stop lo hi') := he _ (List.mem_of_getElem? hs)
  generalize (es.take i).length = l at hm hle
  have up : ∀ {q : Rat}, In (12 * 60 ^ l) (6 * 13 ^ l) q → In (12 * 60 ^ j) (6 * 13 ^ j) q := fun {q} h => by
    have e : 12 * 60 ^ j = 12 * 60 ^ l * 60 ^ (j - l) := by rw [Nat.mul_assoc, ← Nat.pow_add, show l + (j - l) = j by omega]
    rw [e]
    exact in_le (Nat.mul_le_mul_left _ (Nat.pow_le_pow_right (by decide) hle)) (in_up (Nat.pow_pos (by decide)) h)
  have ia := up hm.1.1
  have ib := up hm.2.1.1
  have ie := up hm.2.2.1
  have st : ∀ {q : Rat}, In 12 12 q → In (12 * 60 ^ j) 12 q := fun h => in_up (Nat.pow_pos (by decide)) h
  have sh : ∀ {p q r : Rat}, ¬ (p = 0 ∧ q = 0) → In (12 * 60 ^ j) (18 * 13 ^ j) p → In (12 * 60 ^ j) (18 * 13 ^ j) q → In (12 * 60 ^ j) (18 * 13 ^ j) r → HZ (10 + 10 * j) (mkH p q r) := fun {p q r} h ⟨x, x1, x2⟩ ⟨y, y1, y2⟩ ⟨z, z1, z2⟩ => by
    have hD : (0 : Rat) < ((12 * 60 ^ j : Nat) : Rat) := Rat.natCast_pos.mpr (Nat.mul_pos (by decide) (Nat.pow_pos (by decide)))
    obtain ⟨a, b, c⟩ := mkH_le h hD x1 y1 z1
    have big : 18 * 13 ^ j * (12 * 60 ^ j) ≤ 2 ^ (8 + 10 * j) := by
      have e : 18 * 13 ^ j * (12 * 60 ^ j) = 216 * 780 ^ j := by
        rw [show (780 : Nat) = 13 * 60 from rfl, Nat.mul_pow, Nat.mul_mul_mul_comm]
      have p : 780 ^ j ≤ 2 ^ (10 * j) := by
        rw [Nat.pow_mul]
        exact Nat.pow_le_pow_left (by decide) j
      rw [e, Nat.pow_add]
      exact Nat.mul_le_mul (by decide) p
    have l1 := lg_le (k := 8 + 10 * j) (n := (mkH p q r).p.natAbs) (by omega)
    have l2 := lg_le (k := 8 + 10 * j) (n := (mkH p q r).q.natAbs) (by omega)
    have l3 := lg_le (k := 8 + 10 * j) (n := (mkH p q r).r.natAbs) (by omega)
    exact ⟨by omega, by omega, by omega⟩
  have p13 : 1 ≤ 13 ^ j := Nat.pow_pos (by decide)
  generalize transfer (es.take i) = t at *
  cases hu : x.1.2 with
  | true =>
    rw [hu, if_pos rfl] at hx
    obtain ⟨u, rfl, hx⟩ := hx
    rw [hx]
    exact sh nz (in_le (by omega) ia) (in_le (by omega) ib) (in_le (by omega) (in_sub (st (hst.2 u rfl)) ie))
  | false =>
    rw [hu, if_neg (by decide)] at hx
    obtain ⟨u, rfl, hx⟩ := hx
    rw [hx]
    exact sh (fun z => nz ⟨by grind, by grind⟩) (in_le (by omega) (in_neg ia)) (in_le (by omega) (in_neg ib)) (in_le (by omega) (in_sub ie (st (hst.1 u rfl))))
theorem planes_dir {es : List El} (he : ∀ e ∈ es, ElOk e) : ∀ x ∈ planesOf 0 idM es, Dir x.2 ∧ gcd3 x.2.p x.2.q x.2.r = 1 := fun x hx => by
  obtain ⟨i, _, lo, hi', hs, hx⟩ := planes_mem es 0 idM x hx
  have dt : det (transfer (es.take i)) = 1 := det_transfer fun x hx => he x (List.mem_of_mem_take hx)
  have nz := nz_of_det dt
  rw [comp_id] at hx
  generalize transfer (es.take i) = t at *
  cases hu : x.1.2 with
  | true =>
    rw [hu, if_pos rfl] at hx
    obtain ⟨u, _, hx⟩ := hx
    rw [hx]
    exact ⟨mkH_dir nz, mkH_prim nz⟩
  | false =>
    rw [hu, if_neg (by decide)] at hx
    obtain ⟨u, _, hx⟩ := hx
    rw [hx]
    have nz' : ¬ (-t.a = 0 ∧ -t.b = 0) := fun z => nz ⟨by grind, by grind⟩
    exact ⟨mkH_dir nz', mkH_prim nz'⟩
theorem lcf_inv {α : Type} (f h : α → Dt) {sl slw : List (Option Vl)} {i : Nat} {tt : DT} {te : DE} {all : List Dt} {lk : Option Nat} {K : List Dt → M → Prop} (I : List α → List α → List Cell → Prop)
    (hlk : ∀ r acc st, I r acc st → lockOk lk all ⟨sl, st⟩)
    (hlen : ∀ x r acc st, I (x :: r) acc st → acc.length + 1 < sizeLine)
    (hs : ∀ x r acc st (P : Bool → M → Prop), I (x :: r) acc st → (∀ st', I r (acc ++ [x]) st' → P true ⟨slw.set i (some (.d (f x))), st'⟩) → (∀ st', I r acc st' → P false ⟨slw.set i (some (.d (f x))), st'⟩) → tt ⟨slw.set i (some (.d (f x))), st⟩ P)
    (he : ∀ x st' (C : Vl → M → Prop), C (.d (h x)) ⟨slw.set i (some (.d (f x))), st'⟩ → te ⟨slw.set i (some (.d (f x))), st'⟩ C)
    (hd : ∀ acc st, I [] acc st → K (acc.map h) ⟨sl, st⟩) : ∀ (xs acc : List α) (st : List Cell), I xs acc st → dLcGo sl slw (.nm i) tt te all lk K (xs.map f) (acc.map h) st
  | [], acc, st, h0 => ⟨hlk _ _ _ h0, hd acc st h0⟩
  | x :: r, acc, st, h0 => ⟨hlk _ _ _ h0, by
    refine hs x r acc st _ h0 (fun st' h' => ?_) (fun st' h' => ?_)
    · show if true = true then _ else _
      rw [if_pos rfl]
      refine he x st' _ ⟨by rw [List.length_map]; have := hlen x r acc st h0; omega, ?_⟩
      have := lcf_inv f h I hlk hlen hs he hd r (acc ++ [x]) st' h'
      rw [List.map_append] at this
      exact this
    · show if false = true then _ else _
      rw [if_neg Bool.false_ne_true]
      exact lcf_inv f h I hlk hlen hs he hd r acc st' h'⟩
section
variable {ds : List Int} {i k : Nat} {st : List Cell} {Q : Vl → List Cell → Prop}
theorem lrayN_ok (hk : st[k]? = some (Bx ds i)) (hi : i < 100000) (h : ∀ r : Ray, Pn r.1 → Pn r.2 → Q (.d (rayD r)) (st.set k (Bx ds (i + 4)))) : sp__law_ray_2 [.c k] st Q := by
  have hlt : k < st.length := (List.getElem?_eq_some_iff.mp hk).1
  have hs : ∀ c : Cell, (st.set k c)[k]? = some c := fun c => by simp [hlt]
  have hl : ∀ c : Cell, (st.set k c).length = st.length := fun c => List.length_set
  unfold sp__law_ray_2
  refine ⟨rfl, frac3_ok hk (by omega) fun a ha => ?_⟩
  refine frac3_ok (hs _) (by omega) fun b hb => ?_
  rw [List.set_set]
  refine ⟨lineN rfl, ?_⟩
  have := h (a, b) ha hb
  rw [← hl (Bx ds (i + 4))]
  exact PG.tk this
end
section
variable {st : List Cell} {Q : Vl → List Cell → Prop}
theorem lexit_t {N n : Nat} {es : List El} {r0 : Ray} (he : ∀ e ∈ es, ElIn e) (T : Tz N es) (h1 : zb r0.1 ≤ n) (h2 : zb r0.2 ≤ n) (hn : 3 * N + 2 * n ≤ 10000000) (h : Q (.d (oray (exitR es r0))) st) : sp__law_exit [.d (.lst (es.map elD)), .d (rayD r0)] st Q := by
  unfold sp__law_exit
  refine ⟨rfl, ?_⟩
  obtain ⟨res, eres⟩ : ∃ res, exitR es r0 = res := ⟨_, rfl⟩
  rw [eres] at h
  let S : Ray → Option Vl → M := fun r z => ⟨[some (.d (.lst (es.map elD))), some (.d (rayD r)), z], st⟩
  refine seq_mid (fun m => ∃ r z, res = some r ∧ m = S r z) (fun K hK => ?_) ?_
  · refine each_inv (lk := none) elD (fun q m => ∃ (done : List El) (z : Option Vl), es = done ++ q ∧ exitR q (appM (transfer done) r0) = res ∧ m = S (appM (transfer done) r0) z) (fun _ _ _ => trivial) ?_ ?_ es _ ⟨[], none, rfl, by rw [show appM (transfer []) r0 = r0 from app_id r0]; exact eres, by rw [show appM (transfer []) r0 = r0 from app_id r0]; rfl⟩
    · rintro e q _ K2 hK2 ⟨done, z, e1, ha, rfl⟩
      have hm : e ∈ es := by
        rw [e1]
        exact List.mem_append_right _ List.mem_cons_self
      have hin := he e hm
      obtain ⟨y1, y2⟩ := app_z (T.pref e1) h1 h2
      unfold exitR at ha
      by_cases c : blocks e (appM (transfer done) r0) = true
      · rw [if_pos c] at ha
        refine PG.ifs_t' (S (appM (transfer done) r0) (some (.d (elD e)))) (fun K hK => lblocks2_ok hin (by omega) (by rw [c]; exact hK)) ?_
        rw [← ha] at h
        exact PG.tk h
      · rw [if_neg c] at ha
        have c' : blocks e (appM (transfer done) r0) = false := by simpa using c
        refine guard_st (S (appM (transfer done) r0) (some (.d (elD e)))) (fun K hK => lblocks2_ok hin (by omega) (by rw [c']; exact hK)) ?_
        refine lgo3_ok (n := N) (k := 3 * N + 2 * n) (T.el e hm).ez (by omega) y1 y2 hn ?_
        refine hK2 _ ⟨done ++ [e], some (.d (elD e)), by rw [e1, List.append_assoc]; rfl, ?_, ?_⟩
        · rw [transfer_append, transfer_one, app_comp, app_el]
          exact ha
        · rw [transfer_append, transfer_one, app_comp, app_el]
          rfl
    · rintro _ ⟨done, z, _, ha, rfl⟩
      exact hK _ ⟨appM (transfer done) r0, z, ha.symm, rfl⟩
  rintro _ ⟨r, z, e, rfl⟩
  rw [e] at h
  exact PG.tk h
end
end PG

set_option maxRecDepth 100000
set_option maxHeartbeats 4000000

namespace PG
open PySem PySem.Spec PyProof.Rows L2 RT
theorem lg_tag (e : El) : Lg 0 600 (.str (tag e)) := by
  have g1 : (toPy (Dt.str ("gap" : Str))).shown.length ≤ 600 := by decide +kernel
  have g2 : (toPy (Dt.str ("lens" : Str))).shown.length ≤ 600 := by decide +kernel
  have g3 : (toPy (Dt.str ("prism" : Str))).shown.length ≤ 600 := by decide +kernel
  have g4 : (toPy (Dt.str ("afocal" : Str))).shown.length ≤ 600 := by decide +kernel
  have g5 : (toPy (Dt.str ("stop" : Str))).shown.length ≤ 600 := by decide +kernel
  cases e with
  | gap g => exact ⟨rfl, Nat.le_refl _, g1⟩
  | lens p c => exact ⟨rfl, Nat.le_refl _, g2⟩
  | prism g => exact ⟨rfl, Nat.le_refl _, g3⟩
  | afocal g => exact ⟨rfl, Nat.le_refl _, g4⟩
  | stop lo hi => exact ⟨rfl, Nat.le_refl _, g5⟩
theorem lg_el {e : El} (h : ElZ 1900 e) : Lg 2 4000 (elD e) := by
  have tg := (lg_tag e).le (k' := 1) (L' := 1207) (by decide) (by decide)
  cases e with
  | gap g => exact (lg_tup (ds := [.str ("gap" : Str), fr g]) (all_cons tg (all_cons (lg_fr h) all_nil))).le (Nat.le_refl _) (Nat.le_of_ble_eq_true rfl)
  | lens p c => exact (lg_tup (ds := [.str ("lens" : Str), fr p, fr c]) (all_cons tg (all_cons (lg_fr h.1) (all_cons (lg_fr h.2) all_nil)))).le (Nat.le_refl _) (Nat.le_of_ble_eq_true rfl)
  | prism g => exact (lg_tup (ds := [.str ("prism" : Str), fr g]) (all_cons tg (all_cons (lg_fr h) all_nil))).le (Nat.le_refl _) (Nat.le_of_ble_eq_true rfl)
  | afocal g => exact (lg_tup (ds := [.str ("afocal" : Str), fr g]) (all_cons tg (all_cons (lg_fr h.1) all_nil))).le (Nat.le_refl _) (Nat.le_of_ble_eq_true rfl)
  | stop lo hi => exact (lg_tup (ds := [.str ("stop" : Str), ofr lo, ofr hi]) (all_cons tg (all_cons (lg_ofr h.1) (all_cons (lg_ofr h.2) all_nil)))).le (Nat.le_refl _) (Nat.le_of_ble_eq_true rfl)
theorem lg_els {es : List El} (h : ∀ e ∈ es, ElZ 1900 e) (hl : es.length ≤ 1000) : Lg 3 4010000 (.lst (es.map elD)) :=
  (lg_lst (all_map fun e he => lg_el (h e he))).le (Nat.le_refl _) (by rw [List.length_map]; omega)
theorem lg_ray {r : Ray} (h1 : zb r.1 ≤ 1900) (h2 : zb r.2 ≤ 1900) : Lg 2 4000 (rayD r) :=
  (lg_tup (ds := [fr r.1, fr r.2]) (all_cons (lg_fr h1) (all_cons (lg_fr h2) all_nil))).le (Nat.le_refl _) (Nat.le_of_ble_eq_true rfl)
theorem lg_rays {rs : List Ray} (h : ∀ r ∈ rs, zb r.1 ≤ 1900 ∧ zb r.2 ≤ 1900) (hl : rs.length ≤ 1000) : Lg 3 4010000 (.lst (rs.map rayD)) :=
  (lg_lst (all_map fun r hr => lg_ray (h r hr).1 (h r hr).2)).le (Nat.le_refl _) (by rw [List.length_map]; omega)
theorem lg_ed {e : Ed} (h : e.1 ≤ 100000) : Lg 1 1300 (edD e) := by
  have i : Lg 0 600 (.int (e.1 : Int)) := lg_int (by
    rw [Int.natAbs_natCast]
    have := log2_mono h
    have e : Nat.log2 100000 = 16 := by decide
    omega)
  have s : Lg 0 600 (.str (if e.2 = true then ("upper" : Str) else ("lower" : Str))) := by
    cases e.2 <;> exact ⟨rfl, Nat.le_refl _, by decide +kernel⟩
  exact (lg_tup (ds := [.int (e.1 : Int), .str (if e.2 = true then ("upper" : Str) else ("lower" : Str))]) (all_cons i (all_cons s all_nil))).le (Nat.le_refl _) (Nat.le_of_ble_eq_true rfl)
end PG

set_option maxRecDepth 100000
set_option maxHeartbeats 4000000
namespace PG
open PySem PySem.Spec PyProof.Rows L2 RT
section
variable {st : List Cell} {Q : Vl → List Cell → Prop}
theorem refuses_ok {es : List El} (h : Q (.d (.bl true)) st) : sp__law_refuses [.d (.lst (es.map elD))] st Q := by
  unfold sp__law_refuses
  refine ⟨rfl, ?_⟩
  refine .inr ?_
  refine ⟨lineN rfl, ?_⟩
  show sp_x_clearances [.d (.lst (es.map elD)), .d (.lst [])] st _
  unfold sp_x_clearances
  refine ⟨rfl, ?_⟩
  refine ⟨rfl, Nat.le_of_ble_eq_true rfl, .bl true, List.mem_singleton.mpr rfl, ?_⟩
  show Q (.d (.bl true)) ((st.take st.length).take st.length)
  rw [List.take_length, List.take_length]
  exact h
end
theorem clr_key {es : List El} {rs : List Ray} (hne : rs ≠ []) : (rs.filter fun r => (exitR es r).isNone) = [] ↔ ((cEd 0 idM es).filter fun x => decide (cv rs x < 0)) = [] := by
  rw [List.filter_eq_nil_iff, List.filter_eq_nil_iff]
  have ns : ∀ r, ¬ (exitR es r).isNone = true ↔ (exitR es (appM idM r)).isSome = true := fun r => by
    rw [app_id]
    cases exitR es r <;> simp
  constructor
  · intro h x hx
    rw [decide_eq_true_iff]
    obtain ⟨⟨r, hrm, e⟩, _⟩ := cv_spec hne x
    have := (exit_clr es 0 idM r).mp ((ns r).mp (h r hrm)) x hx
    rw [← e]
    grind
  · intro h r hrm
    refine (ns r).mpr ((exit_clr es 0 idM r).mpr fun x hx => ?_)
    have := h x hx
    rw [decide_eq_true_iff] at this
    have := (cv_spec hne x).2 r hrm
    grind
theorem law_k50 : LawD 63 sp_law_33 := fun ns hl hb => by
  unfold sp_law_33
  refine ⟨rfl, ?_⟩
  let sc : Dt := .lst (ns.map .int)
  refine seq_mid (fun m => ∃ ds : List Int, m = ⟨[some (.d sc), some (.c 0), none, none, none, none, none, none, none, none, none, none, none], [Bx ds 0]⟩) (fun K hK => box_ok hb (by decide) (by decide) fun ds hd hdl => hK _ ⟨ds, rfl⟩) ?_
  rintro _ ⟨ds, rfl⟩
  let X : Option Vl → Option Vl → Option Vl → Option Vl → Option Vl → Option Vl → Option Vl → Option Vl → Option Vl → Option Vl → Option Vl → Nat → M := fun z2 z3 z4 z5 z6 z7 z8 z9 z10 z11 z12 j => ⟨[some (.d sc), some (.c 0), z2, z3, z4, z5, z6, z7, z8, z9, z10, z11, z12], [Bx ds j]⟩
  refine seq_mid (fun m => ∃ z2 z3 z4 z5 z6 z7 z8 z9 z10 z11 z12 j, j ≤ 1000 ∧ m = X z2 z3 z4 z5 z6 z7 z8 z9 z10 z11 z12 j) (fun K hK => ?_) ?_
  · refine ⟨⟨by decide, by decide⟩, range_inv (fun n _ m => ∃ z2 z3 z4 z5 z6 z7 z8 z9 z10 z11 z12 j, j + 200 * n ≤ 1000 ∧ m = X z2 z3 z4 z5 z6 z7 z8 z9 z10 z11 z12 j) ?_ (fun _ m ⟨z2, z3, z4, z5, z6, z7, z8, z9, z10, z11, z12, j, hj, e⟩ => hK m ⟨z2, z3, z4, z5, z6, z7, z8, z9, z10, z11, z12, j, by omega, e⟩) 2 0 _ ⟨none, none, none, none, none, none, none, none, none, none, none, 0, by omega, rfl⟩⟩
    rintro n lo _ K2 hK2 ⟨z2, z3, z4, z5, z6, z7, z8, z9, z10, z11, z12, j, hj, rfl⟩
    let t2 : Option Vl := some (.d (.int lo))
    let E : List El → Option Vl := fun es => some (.d (.lst (es.map elD)))
    let R : List Ray → Option Vl := fun rs => some (.d (.lst (rs.map rayD)))
    let H : List EP → Option Vl := fun P => some (.d (.lst ((P.map (·.2)).map hpD)))
    refine seq_mid (fun m => ∃ es i, es.length ≤ 8 ∧ (∀ e ∈ es, ElIn e) ∧ i ≤ j + 49 ∧ m = X t2 (E es) z4 z5 z6 z7 z8 z9 z10 z11 z12 i) (fun K hK => train3_ok (n := 8) (by decide) (k := 0) (i := j) (ds := ds) rfl (by omega) fun es i h1 h2 h3 => hK _ ⟨es, i, h1, h2, by omega, rfl⟩) ?_
    rintro _ ⟨es, j1, hle, he, hj1, rfl⟩
    have T : Tz 92 es := tz_in he hle
    refine seq_mid (fun m => ∃ rs i, rs ≠ [] ∧ rs.length ≤ 3 ∧ (∀ r ∈ rs, zb r.1 ≤ 374 ∧ zb r.2 ≤ 374) ∧ i ≤ j1 + 13 ∧ m = X t2 (E es) (R rs) z5 z6 z7 z8 z9 z10 z11 z12 i) (fun K hK => ?_) ?_
    · refine draw2_ok (k := 0) (i := j1) (ds := ds) rfl (by decide) (by omega) fun c c0 c1 => ⟨⟨by omega, by omega⟩, ?_⟩
      refine lc_inv (lk := none) rayD (fun r acc st' => ∃ i, st' = [Bx ds i] ∧ acc.length + r.length = (1 + c).toNat ∧ i ≤ j1 + 1 + 4 * acc.length ∧ ∀ r ∈ acc, zb r.1 ≤ 374 ∧ zb r.2 ≤ 374) (fun _ _ _ _ => trivial) ?_ ?_ ?_ _ [] _ ⟨j1 + 1, rfl, by
        rw [rangeD_len, List.length_nil]
        omega, Nat.le_refl _, fun e he => nomatch he⟩
      · rintro x r acc st' ⟨i, rfl, hlen, _, _⟩
        rw [List.length_cons] at hlen
        exact small_lt (by omega)
      · rintro x r acc st' P ⟨i, rfl, hlen, hi, ha⟩ hP
        rw [List.length_cons] at hlen
        refine lrayN_ok (k := 0) (i := i) (ds := ds) rfl (by omega) fun w w1 w2 => ?_
        refine hP w ⟨_, _⟩ ⟨i + 4, rfl, ?_, ?_, fun e' he' => ?_⟩
        · rw [List.length_append, List.length_singleton]
          omega
        · rw [List.length_append, List.length_singleton]
          omega
        · rcases List.mem_append.mp he' with h | h
          · exact ha e' h
          · rw [List.mem_singleton.mp h]
            exact ⟨Nat.le_trans w1.zb (by decide), Nat.le_trans w2.zb (by decide)⟩
      · rintro acc st' ⟨i, rfl, hlen, hi, ha⟩
        have hal : acc.length = (1 + c).toNat := by simpa using hlen
        exact hK _ ⟨acc, i, fun z => by rw [z, List.length_nil] at hal; omega, by omega, ha, by omega, rfl⟩
    rintro _ ⟨rs0, j2, hne0, hrl0, hr0, hj2, rfl⟩
    obtain ⟨P, eP⟩ : ∃ P, planesOf 0 idM es = P := ⟨_, rfl⟩
    have hPl : P.length ≤ 16 := by
      have := planesOf_len 0 idM es
      rw [eP] at this
      omega
    refine seq_to (X t2 (E es) (R rs0) (H P) z6 z7 z8 z9 z10 z11 z12 j2) (fun K hK => lplanes3_t T (by decide) (by omega) (by rw [eP]; exact hK)) ?_
    have hPz : ∀ g ∈ P.map (·.2), HZ 90 g := fun g hg => by
      obtain ⟨x, hx, rfl⟩ := List.mem_map.mp hg
      exact planes_z (j := 8) (fun e h => (he e h).w) hle x (by rw [eP]; exact hx)
    have hPd : ∀ g ∈ P.map (·.2), Dir g := fun g hg => by
      obtain ⟨x, hx, rfl⟩ := List.mem_map.mp hg
      exact (planes_dir T.ok x (by rw [eP]; exact hx)).1
    refine seq_mid (fun m => ∃ rs z6 i, rs ≠ [] ∧ rs.length ≤ 4 ∧ (∀ r ∈ rs, zb r.1 ≤ 374 ∧ zb r.2 ≤ 374) ∧ i ≤ j2 + 4 ∧ m = X t2 (E es) (R rs) (H P) z6 z7 z8 z9 z10 z11 z12 i) (fun K hK => ?_) ?_
    · have no : ∀ i, i ≤ j2 + 1 → K (X t2 (E es) (R rs0) (H P) z6 z7 z8 z9 z10 z11 z12 i) := fun i hi => hK _ ⟨rs0, z6, i, hne0, by omega, hr0, by omega, rfl⟩
      refine draw2_ok (k := 0) (i := j2) (ds := ds) rfl (by decide) (by omega) fun c c0 c1 => ⟨rfl, rfl, ?_⟩
      show if eqD (.int c) (.int 0) = true then _ else _
      rw [eqD_int]
      refine ifd (fun _ => ?_) fun _ => no _ (Nat.le_refl _)
      refine lempty_ok (n := 90) hPz (by decide) (by decide) (by rw [List.length_map]; omega) ?_
      rw [show (boundsF 1 0 (P.map (·.2))).isNone = emptyB (P.map (·.2)) from by rw [fov_rng n10 hPd]; cases emptyB (P.map (·.2)) <;> rfl]
      show if (!emptyB (P.map (·.2))) = true then _ else _
      cases ce : emptyB (P.map (·.2)) with
      | true => exact no _ (Nat.le_refl _)
      | false =>
        rw [show (!false) = true from rfl, if_pos rfl]
        show dSeq _ _ _ (X t2 (E es) (R rs0) (H P) z6 z7 z8 z9 z10 z11 z12 (j2 + 1))
        let w : Ray := (midH (P.map (·.2)), midS (P.map (·.2)))
        obtain ⟨x0, hx0⟩ := not_empty hPd ce
        have w1 := midH_z hPd hPz hx0
        have w2 := midS_z hPd hPz hx0
        refine seq_to (X t2 (E es) (R rs0) (H P) (some (.d (rayD w))) z7 z8 z9 z10 z11 z12 (j2 + 1)) (fun K hK => lsampleX_ok (n := 90) hPd hPz (by decide) (by decide) (by rw [List.length_map]; omega) ce hK) ?_
        refine ⟨slt rfl, ?_⟩
        refine lcf_inv (lk := none) rayD rayD (fun r acc st' => ∃ i, st' = [Bx ds i] ∧ acc.length + r.length ≤ 3 ∧ i + r.length ≤ j2 + 4 ∧ ∀ x, x ∈ acc ∨ x ∈ r → zb x.1 ≤ 374 ∧ zb x.2 ≤ 374) (fun _ _ _ _ => trivial) ?_ ?_ (fun x st' C hC => hC) ?_ rs0 [] _ ⟨j2 + 1, rfl, by rw [List.length_nil]; omega, by omega, fun x hx => hr0 x (by simpa using hx)⟩
        · rintro x r acc st' ⟨i, rfl, hlen, _, _⟩
          rw [List.length_cons] at hlen
          exact small_lt (by omega)
        · rintro x r acc st' P ⟨i, rfl, hlen, hi, ha⟩ hT hF
          rw [List.length_cons] at hlen hi
          refine draw2_ok (k := 0) (i := i) (ds := ds) rfl (by decide) (by omega) fun c c0 c1 => ⟨rfl, rfl, ?_⟩
          show P (eqD (.int c) (.int 0)) _
          cases eqD (.int c) (.int 0) with
          | true =>
            refine hT _ ⟨i + 1, rfl, by rw [List.length_append, List.length_singleton]; omega, by omega, fun y hy => ha y ?_⟩
            rw [List.mem_append, List.mem_singleton] at hy
            rw [List.mem_cons]
            rcases hy with (h | h) | h
            · exact .inl h
            · exact .inr (.inl h)
            · exact .inr (.inr h)
          | false =>
            refine hF _ ⟨i + 1, rfl, by omega, by omega, fun y hy => ha y ?_⟩
            rw [List.mem_cons]
            rcases hy with h | h
            · exact .inl h
            · exact .inr (.inr h)
        · rintro acc st' ⟨i, rfl, hlen, hi, ha⟩
          rw [List.length_nil] at hlen hi
          refine ⟨?_, ?_⟩
          · rw [List.length_map]
            refine Nat.le_of_lt (small_lt ?_)
            show 1 + acc.length < 16777216
            omega
          refine hK _ ⟨w :: acc, some (.d (rayD w)), i, by simp, by rw [List.length_cons]; omega, fun r hr => ?_, by omega, rfl⟩
          rcases List.mem_cons.mp hr with rfl | h
          · exact ⟨by show zb (midH (P.map (·.2))) ≤ _; omega, by show zb (midS (P.map (·.2))) ≤ _; omega⟩
          · exact ha r (.inl h)
    rintro _ ⟨rs, z6, j3, hne, hrl, hr, hj3, rfl⟩
    have hsh : shows (.tup [.lst (es.map elD), .lst (rs.map rayD)]) := by
      have a := lg_els (es := es) (fun e h => (T.el e h).le (by decide)) (by omega)
      have b := lg_rays (rs := rs) (fun r h => ⟨Nat.le_trans (hr r h).1 (by decide), Nat.le_trans (hr r h).2 (by decide)⟩) (by omega)
      exact (lg_tup (ds := [.lst (es.map elD), .lst (rs.map rayD)]) (all_cons a (all_cons b all_nil))).shows (by decide) (by show 2 * (4010000 + 2) + 3 ≤ 16000000; decide)
    obtain ⟨kt, ekt⟩ : ∃ kt, reprD (.tup [.lst (es.map elD), .lst (rs.map rayD)]) = kt := ⟨_, rfl⟩
    let C : Option Vl := some (.d (.lst ((cEd 0 idM es).map (cvD rs))))
    let kp : Option Vl := some (.d (.str kt))
    refine seq_to (X t2 (E es) (R rs) (H P) z6 kp z8 z9 z10 z11 z12 j3) (fun K hK => ?_) ?_
    · refine ⟨lineN rfl, hsh, ?_⟩
      rw [ekt]
      exact hK
    refine seq_to (X t2 (E es) (R rs) (H P) z6 kp C z9 z10 z11 z12 j3) (fun K hK => clearances_ok (N := 92) (n := 374) T (by decide) hr (by decide) (by omega) (by omega) hne hK) ?_
    have hcl := cEd_len 0 idM es
    have hshC : shows (.lst ((cEd 0 idM es).map (cvD rs))) := by
      refine (lg_lst (k := 2) (L := 3000) (all_map fun x hx => ?_)).shows (by decide) (by rw [List.length_map]; omega)
      have ci := cEd_in T hx
      have := ci.lt
      exact (lg_tup (ds := [edD x.1, fr (cv rs x)]) (all_cons (lg_ed (by omega)) (all_cons ((lg_fr (Nat.le_trans (cv_z hne ci hr) (by decide))).le (Nat.le_refl _) (by decide)) all_nil))).le (Nat.le_refl _) (Nat.le_of_ble_eq_true rfl)
    refine guard_st (X t2 (E es) (R rs) (H P) z6 kp C z9 z10 z11 z12 j3) (fun K hK => ?_) ?_
    · refine ldue5_ok (N := 92) (n := 374) T (by decide) hr (by decide) (by omega) (by omega) hne ?_
      refine same_ok hshC ?_
      refine ⟨lineN rfl, hsh, ?_⟩
      rw [ekt]
      show K (kt != kt) _
      rw [bne_self_eq_false]
      exact hK
    let bl : List Ray := rs.filter fun r => (exitR es r).isNone
    refine seq_to (X t2 (E es) (R rs) (H P) z6 kp C (some (.d (.lst (bl.map fun _ => Dt.int 1)))) z10 z11 z12 j3) (fun K hK => ?_) ?_
    · refine filt_map (f := rayD) (h := fun _ => Dt.int 1) (p := fun r => (exitR es r).isNone) rs [] (fun r hrm P hP => ?_) (fun r _ C hC => hC) (by rw [List.length_nil]; omega) ?_
      · refine lexit_t (N := 92) (n := 374) he T (hr r hrm).1 (hr r hrm).2 (by decide) ?_
        cases ex : exitR es r with
        | none => rw [ex] at hP; exact hP
        | some y => rw [ex] at hP; exact hP
      · rw [List.nil_append]
        exact hK
    let cb : List CE := (cEd 0 idM es).filter fun x => decide (cv rs x < 0)
    have key : (bl = []) ↔ (cb = []) := clr_key hne
    have eq0 : ∀ {α : Type} (l : List α), eqD (.lst (l.map fun _ => Dt.int 1)) (.lst []) = decide (l = []) := fun l => by
      cases l with
      | nil => rfl
      | cons a b => exact (decide_eq_false (by simp)).symm
    have sh1 : ∀ {α : Type} (l : List α), shD (.lst (l.map fun _ => Dt.int 1)) := fun l => sh_ok (n := 1) (sh_lst (all_map fun _ _ => sh_int)) 
    refine guard_st (X t2 (E es) (R rs) (H P) z6 kp C (some (.d (.lst (bl.map fun _ => Dt.int 1)))) z10 z11 z12 j3) (fun K hK => ?_) ?_
    · refine ⟨lineN rfl, sh1 bl, sh1 ([] : List Ray), ?_⟩
      refine filt_map (f := cvD rs) (h := fun _ => Dt.int 1) (p := fun x => decide (cv rs x < 0)) (cEd 0 idM es) [] (fun x hx P hP => ⟨trivial, ?_⟩) (fun r _ C hC => hC) (by rw [List.length_nil]; omega) ?_
      · show P (decide ((cv rs x).num < 0)) _
        rw [show decide ((cv rs x).num < 0) = decide (cv rs x < 0) from decide_eq_decide.mpr (num_neg_iff _)]
        exact hP
      · rw [List.nil_append]
        refine ⟨lineN rfl, sh1 cb, sh1 ([] : List Ray), rfl, rfl, ?_⟩
        show K (!eqD (.bl (eqD (.lst (bl.map fun _ => Dt.int 1)) (.lst []))) (.bl (eqD (.lst (cb.map fun _ => Dt.int 1)) (.lst [])))) _
        rw [eq0, eq0, decide_eq_decide.mpr key, neD_self]
        exact hK
    refine guard_end (fun m => m = X t2 (E es) (R rs) (H P) z6 kp C (some (.d (.lst (bl.map fun _ => Dt.int 1)))) z10 z11 z12 j3) (fun K hK => refuses_ok (hK _ rfl)) ?_
    rintro _ rfl
    exact hK2 _ ⟨_, _, _, _, _, _, _, _, _, _, _, j3, by omega, rfl⟩
  · rintro _ ⟨z2, z3, z4, z5, z6, z7, z8, z9, z10, z11, z12, j, hj, rfl⟩
    refine ⟨lineN rfl, ?_⟩
    show sp__law_refuses [.d (.lst (([] : List El).map elD))] _ _
    refine refuses_ok ?_
    refine ⟨lineN rfl, ?_⟩
    refine lrayN_ok (k := 0) (i := j) (ds := ds) rfl (by omega) fun w w1 w2 => ?_
    refine ⟨lineN rfl, ?_⟩
    have T0 : Tz 92 ([] : List El) := tz_in (j := 8) (fun e h => nomatch h) (by decide)
    refine clearances_ok (es := []) (rays := [w]) (N := 92) (n := 374) T0 (by decide) (fun r hr => by rw [List.mem_singleton.mp hr]; exact ⟨Nat.le_trans w1.zb (by decide), Nat.le_trans w2.zb (by decide)⟩) (by decide) (by decide) (Nat.le_of_ble_eq_true rfl) (by simp) ?_
    refine ⟨lineN rfl, ?_⟩
    exact same_ok (d := .lst []) ((lg_lst (k := 0) (L := 0) (ds := []) all_nil).shows (by decide) (by decide)) rfl
end PG

set_option maxRecDepth 100000
set_option maxHeartbeats 4000000
theorem RT.boot_ValueError : PySem.bootBuiltins "ValueError" = some (.type "ValueError") := by decide +kernel
namespace K50
open PySem PySem.Spec PyProof.Rows L2 RT

def top (i : Nat) : Stmt := PySem.Challenge.pw_raytrain_k50_clearances.main.body.getD i (.Pass ⟨0, 0, 0, 0⟩)
abbrev s_common_divisor : Stmt := top 8
abbrev s_fraction : Stmt := top 9
abbrev s_add : Stmt := top 10
abbrev s_negative : Stmt := top 11
abbrev s_subtract : Stmt := top 12
abbrev s_multiply : Stmt := top 13
abbrev s_divide : Stmt := top 14
abbrev s_sign : Stmt := top 15
abbrev s_compare : Stmt := top 16
abbrev s_is_less : Stmt := top 17
abbrev s_least_of : Stmt := top 18
abbrev s_element_map : Stmt := top 21
abbrev s_weighted : Stmt := top 22
abbrev s_apply_map : Stmt := top 23
abbrev s_compose_maps : Stmt := top 24
abbrev s_ray_transfer : Stmt := top 25
abbrev s_edges_of : Stmt := top 27
abbrev s_clearance : Stmt := top 28
abbrev s_clearances : Stmt := top 29
abbrev s__law_cell : Stmt := top 31
abbrev s__law_row : Stmt := top 32
abbrev s__law_box : Stmt := top 33
abbrev s__law_draw : Stmt := top 34
abbrev s__law_same : Stmt := top 35
abbrev s__law_frac : Stmt := top 36
abbrev s__law_add : Stmt := top 37
abbrev s__law_neg : Stmt := top 38
abbrev s__law_sub : Stmt := top 39
abbrev s__law_mul : Stmt := top 40
abbrev s__law_div : Stmt := top 41
abbrev s__law_less : Stmt := top 42
abbrev s__law_least : Stmt := top 43
abbrev s__law_greatest : Stmt := top 44
abbrev s__law_fraction : Stmt := top 45
abbrev s__law_nonzero : Stmt := top 46
abbrev s__law_stop : Stmt := top 47
abbrev s__law_element : Stmt := top 48
abbrev s__law_train : Stmt := top 49
abbrev s__law_ray : Stmt := top 50
abbrev s__law_go : Stmt := top 51
abbrev s__law_blocks : Stmt := top 52
abbrev s__law_out : Stmt := top 53
abbrev s__law_exit : Stmt := top 54
abbrev s__law_map : Stmt := top 55
abbrev s__law_plane : Stmt := top 56
abbrev s__law_edges : Stmt := top 57
abbrev s__law_planes : Stmt := top 58
abbrev s__law_line : Stmt := top 59
abbrev s__law_bounds : Stmt := top 60
abbrev s__law_empty : Stmt := top 61
abbrev s__law_near : Stmt := top 62
abbrev s__law_sample : Stmt := top 63
abbrev s__law_due : Stmt := top 64
abbrev s__law_refuses : Stmt := top 65
abbrev s_law : Stmt := top 66
def dd_common_divisor : He.DefD := ⟨("common_divisor", none), "common_divisor", "common_divisor", defArgs s_common_divisor, defBody s_common_divisor, defScope s_common_divisor, [], []⟩
def dd_fraction : He.DefD := ⟨("fraction", none), "fraction", "fraction", defArgs s_fraction, defBody s_fraction, defScope s_fraction, [.int 1], []⟩
def dd_add : He.DefD := ⟨("add", none), "add", "add", defArgs s_add, defBody s_add, defScope s_add, [], []⟩
def dd_negative : He.DefD := ⟨("negative", none), "negative", "negative", defArgs s_negative, defBody s_negative, defScope s_negative, [], []⟩
def dd_subtract : He.DefD := ⟨("subtract", none), "subtract", "subtract", defArgs s_subtract, defBody s_subtract, defScope s_subtract, [], []⟩
def dd_multiply : He.DefD := ⟨("multiply", none), "multiply", "multiply", defArgs s_multiply, defBody s_multiply, defScope s_multiply, [], []⟩
def dd_divide : He.DefD := ⟨("divide", none), "divide", "divide", defArgs s_divide, defBody s_divide, defScope s_divide, [], []⟩
def dd_sign : He.DefD := ⟨("sign", none), "sign", "sign", defArgs s_sign, defBody s_sign, defScope s_sign, [], []⟩
def dd_compare : He.DefD := ⟨("compare", none), "compare", "compare", defArgs s_compare, defBody s_compare, defScope s_compare, [], []⟩
def dd_is_less : He.DefD := ⟨("is_less", none), "is_less", "is_less", defArgs s_is_less, defBody s_is_less, defScope s_is_less, [], []⟩
def dd_least_of : He.DefD := ⟨("least_of", none), "least_of", "least_of", defArgs s_least_of, defBody s_least_of, defScope s_least_of, [], []⟩
def dd_element_map : He.DefD := ⟨("element_map", none), "element_map", "element_map", defArgs s_element_map, defBody s_element_map, defScope s_element_map, [], []⟩
def dd_weighted : He.DefD := ⟨("weighted", none), "weighted", "weighted", defArgs s_weighted, defBody s_weighted, defScope s_weighted, [], []⟩
def dd_apply_map : He.DefD := ⟨("apply_map", none), "apply_map", "apply_map", defArgs s_apply_map, defBody s_apply_map, defScope s_apply_map, [], []⟩
def dd_compose_maps : He.DefD := ⟨("compose_maps", none), "compose_maps", "compose_maps", defArgs s_compose_maps, defBody s_compose_maps, defScope s_compose_maps, [], []⟩
def dd_ray_transfer : He.DefD := ⟨("ray_transfer", none), "ray_transfer", "ray_transfer", defArgs s_ray_transfer, defBody s_ray_transfer, defScope s_ray_transfer, [], []⟩
def dd_edges_of : He.DefD := ⟨("edges_of", none), "edges_of", "edges_of", defArgs s_edges_of, defBody s_edges_of, defScope s_edges_of, [], []⟩
def dd_clearance : He.DefD := ⟨("clearance", none), "clearance", "clearance", defArgs s_clearance, defBody s_clearance, defScope s_clearance, [], []⟩
def dd_clearances : He.DefD := ⟨("clearances", none), "clearances", "clearances", defArgs s_clearances, defBody s_clearances, defScope s_clearances, [], []⟩
def dd__law_cell : He.DefD := ⟨("_law_cell", none), "_law_cell", "_law_cell", defArgs s__law_cell, defBody s__law_cell, defScope s__law_cell, [], []⟩
def dd__law_row : He.DefD := ⟨("_law_row", none), "_law_row", "_law_row", defArgs s__law_row, defBody s__law_row, defScope s__law_row, [], []⟩
def dd__law_box : He.DefD := ⟨("_law_box", none), "_law_box", "_law_box", defArgs s__law_box, defBody s__law_box, defScope s__law_box, [], []⟩
def dd__law_draw : He.DefD := ⟨("_law_draw", none), "_law_draw", "_law_draw", defArgs s__law_draw, defBody s__law_draw, defScope s__law_draw, [], []⟩
def dd__law_same : He.DefD := ⟨("_law_same", none), "_law_same", "_law_same", defArgs s__law_same, defBody s__law_same, defScope s__law_same, [], []⟩
def dd__law_frac : He.DefD := ⟨("_law_frac", none), "_law_frac", "_law_frac", defArgs s__law_frac, defBody s__law_frac, defScope s__law_frac, [], []⟩
def dd__law_add : He.DefD := ⟨("_law_add", none), "_law_add", "_law_add", defArgs s__law_add, defBody s__law_add, defScope s__law_add, [], []⟩
def dd__law_neg : He.DefD := ⟨("_law_neg", none), "_law_neg", "_law_neg", defArgs s__law_neg, defBody s__law_neg, defScope s__law_neg, [], []⟩
def dd__law_sub : He.DefD := ⟨("_law_sub", none), "_law_sub", "_law_sub", defArgs s__law_sub, defBody s__law_sub, defScope s__law_sub, [], []⟩
def dd__law_mul : He.DefD := ⟨("_law_mul", none), "_law_mul", "_law_mul", defArgs s__law_mul, defBody s__law_mul, defScope s__law_mul, [], []⟩
def dd__law_div : He.DefD := ⟨("_law_div", none), "_law_div", "_law_div", defArgs s__law_div, defBody s__law_div, defScope s__law_div, [], []⟩
def dd__law_less : He.DefD := ⟨("_law_less", none), "_law_less", "_law_less", defArgs s__law_less, defBody s__law_less, defScope s__law_less, [], []⟩
def dd__law_least : He.DefD := ⟨("_law_least", none), "_law_least", "_law_least", defArgs s__law_least, defBody s__law_least, defScope s__law_least, [], []⟩
def dd__law_greatest : He.DefD := ⟨("_law_greatest", none), "_law_greatest", "_law_greatest", defArgs s__law_greatest, defBody s__law_greatest, defScope s__law_greatest, [], []⟩
def dd__law_fraction : He.DefD := ⟨("_law_fraction", none), "_law_fraction", "_law_fraction", defArgs s__law_fraction, defBody s__law_fraction, defScope s__law_fraction, [], []⟩
def dd__law_nonzero : He.DefD := ⟨("_law_nonzero", none), "_law_nonzero", "_law_nonzero", defArgs s__law_nonzero, defBody s__law_nonzero, defScope s__law_nonzero, [], []⟩
def dd__law_stop : He.DefD := ⟨("_law_stop", none), "_law_stop", "_law_stop", defArgs s__law_stop, defBody s__law_stop, defScope s__law_stop, [], []⟩
def dd__law_element : He.DefD := ⟨("_law_element", none), "_law_element", "_law_element", defArgs s__law_element, defBody s__law_element, defScope s__law_element, [], []⟩
def dd__law_train : He.DefD := ⟨("_law_train", none), "_law_train", "_law_train", defArgs s__law_train, defBody s__law_train, defScope s__law_train, [], []⟩
def dd__law_ray : He.DefD := ⟨("_law_ray", none), "_law_ray", "_law_ray", defArgs s__law_ray, defBody s__law_ray, defScope s__law_ray, [], []⟩
def dd__law_go : He.DefD := ⟨("_law_go", none), "_law_go", "_law_go", defArgs s__law_go, defBody s__law_go, defScope s__law_go, [], []⟩
def dd__law_blocks : He.DefD := ⟨("_law_blocks", none), "_law_blocks", "_law_blocks", defArgs s__law_blocks, defBody s__law_blocks, defScope s__law_blocks, [], []⟩
def dd__law_out : He.DefD := ⟨("_law_out", none), "_law_out", "_law_out", defArgs s__law_out, defBody s__law_out, defScope s__law_out, [], []⟩
def dd__law_exit : He.DefD := ⟨("_law_exit", none), "_law_exit", "_law_exit", defArgs s__law_exit, defBody s__law_exit, defScope s__law_exit, [], []⟩
def dd__law_map : He.DefD := ⟨("_law_map", none), "_law_map", "_law_map", defArgs s__law_map, defBody s__law_map, defScope s__law_map, [], []⟩
def dd__law_plane : He.DefD := ⟨("_law_plane", none), "_law_plane", "_law_plane", defArgs s__law_plane, defBody s__law_plane, defScope s__law_plane, [], []⟩
def dd__law_edges : He.DefD := ⟨("_law_edges", none), "_law_edges", "_law_edges", defArgs s__law_edges, defBody s__law_edges, defScope s__law_edges, [], []⟩
def dd__law_planes : He.DefD := ⟨("_law_planes", none), "_law_planes", "_law_planes", defArgs s__law_planes, defBody s__law_planes, defScope s__law_planes, [], []⟩
def dd__law_line : He.DefD := ⟨("_law_line", none), "_law_line", "_law_line", defArgs s__law_line, defBody s__law_line, defScope s__law_line, [], []⟩
def dd__law_bounds : He.DefD := ⟨("_law_bounds", none), "_law_bounds", "_law_bounds", defArgs s__law_bounds, defBody s__law_bounds, defScope s__law_bounds, [], []⟩
def dd__law_empty : He.DefD := ⟨("_law_empty", none), "_law_empty", "_law_empty", defArgs s__law_empty, defBody s__law_empty, defScope s__law_empty, [], []⟩
def dd__law_near : He.DefD := ⟨("_law_near", none), "_law_near", "_law_near", defArgs s__law_near, defBody s__law_near, defScope s__law_near, [], []⟩
def dd__law_sample : He.DefD := ⟨("_law_sample", none), "_law_sample", "_law_sample", defArgs s__law_sample, defBody s__law_sample, defScope s__law_sample, [], []⟩
def dd__law_due : He.DefD := ⟨("_law_due", none), "_law_due", "_law_due", defArgs s__law_due, defBody s__law_due, defScope s__law_due, [], []⟩
def dd__law_refuses : He.DefD := ⟨("_law_refuses", none), "_law_refuses", "_law_refuses", defArgs s__law_refuses, defBody s__law_refuses, defScope s__law_refuses, [], []⟩
def dd_law : He.DefD := ⟨("law", none), "law", "law", defArgs s_law, defBody s_law, defScope s_law, [], []⟩
def fn : List He.DefD := [dd_common_divisor, dd_fraction, dd_add, dd_negative, dd_subtract, dd_multiply, dd_divide, dd_sign, dd_compare, dd_is_less, dd_least_of, dd_element_map, dd_weighted, dd_apply_map, dd_compose_maps, dd_ray_transfer, dd_edges_of, dd_clearance, dd_clearances, dd__law_cell, dd__law_row, dd__law_box, dd__law_draw, dd__law_same, dd__law_frac, dd__law_add, dd__law_neg, dd__law_sub, dd__law_mul, dd__law_div, dd__law_less, dd__law_least, dd__law_greatest, dd__law_fraction, dd__law_nonzero, dd__law_stop, dd__law_element, dd__law_train, dd__law_ray, dd__law_go, dd__law_blocks, dd__law_out, dd__law_exit, dd__law_map, dd__law_plane, dd__law_edges, dd__law_planes, dd__law_line, dd__law_bounds, dd__law_empty, dd__law_near, dd__law_sample, dd__law_due, dd__law_refuses, dd_law]
def fa : List He.Fa := [.glo "common_divisor", .glo "fraction", .glo "add", .glo "negative", .glo "subtract", .glo "multiply", .glo "divide", .glo "sign", .glo "compare", .glo "is_less", .glo "least_of", .glo "element_map", .glo "weighted", .glo "apply_map", .glo "compose_maps", .glo "ray_transfer", .glo "edges_of", .glo "clearance", .glo "clearances", .glo "_law_cell", .glo "_law_row", .glo "_law_box", .glo "_law_draw", .glo "_law_same", .glo "_law_frac", .glo "_law_add", .glo "_law_neg", .glo "_law_sub", .glo "_law_mul", .glo "_law_div", .glo "_law_less", .glo "_law_least", .glo "_law_greatest", .glo "_law_fraction", .glo "_law_nonzero", .glo "_law_stop", .glo "_law_element", .glo "_law_train", .glo "_law_ray", .glo "_law_go", .glo "_law_blocks", .glo "_law_out", .glo "_law_exit", .glo "_law_map", .glo "_law_plane", .glo "_law_edges", .glo "_law_planes", .glo "_law_line", .glo "_law_bounds", .glo "_law_empty", .glo "_law_near", .glo "_law_sample", .glo "_law_due", .glo "_law_refuses", .glo "law", .free "abs", .free "enumerate", .free "len", .free "range", .free "int", .free "repr", .free "isinstance", .free "ValueError"]
def xb (K : PySem.W.Frag) : Bool := cstB K "ZERO" PG.v_ZERO && (cstB K "ONE" PG.v_ONE && (cstB K "IDENTITY" PG.v_IDENTITY && (excB K "NoRays" && (exmB K "NoRays" "RaytrainError" && (isiB K "NoRays" "NoRays" true && (isiT K "NoRays" "ValueError" true && (isiB K "NoRays" "CannotShift" false && (isiB K "NoRays" "NoSuchElement" false))))))))
section
variable {P : Program} {w : World} {K : PySem.W.Frag} {mg : Str → Option Value} {base : Heap}
theorem e_excB_NoRays (KX : K.In base) (GX : base.Ns mainGlobals mg) (hxb : xb K = true) : ExcG K mg "NoRays" := excG_of KX GX ((band (band (band (band hxb).2).2).2).1)
theorem e_exmB_NoRays_RaytrainError (KX : K.In base) (GX : base.Ns mainGlobals mg) (hxb : xb K = true) : ExmG K mg "NoRays" "RaytrainError" := exmG_of KX GX ((band (band (band (band (band hxb).2).2).2).2).1)
theorem e_isiB_NoRays_NoRays_True (KX : K.In base) (GX : base.Ns mainGlobals mg) (hxb : xb K = true) : IsiG K mg "NoRays" "NoRays" true := isiG_of KX GX ((band (band (band (band (band (band hxb).2).2).2).2).2).1)
theorem e_isiT_NoRays_ValueError_True (KX : K.In base) (GX : base.Ns mainGlobals mg) (hxb : xb K = true) : IsiTG K "NoRays" "ValueError" true := isiTG_of ((band (band (band (band (band (band (band hxb).2).2).2).2).2).2).1)
theorem e_isiB_NoRays_CannotShift_False (KX : K.In base) (GX : base.Ns mainGlobals mg) (hxb : xb K = true) : IsiG K mg "NoRays" "CannotShift" false := isiG_of KX GX ((band (band (band (band (band (band (band (band hxb).2).2).2).2).2).2).2).1)
theorem e_isiB_NoRays_NoSuchElement_False (KX : K.In base) (GX : base.Ns mainGlobals mg) (hxb : xb K = true) : IsiG K mg "NoRays" "NoSuchElement" false := isiG_of KX GX ((band (band (band (band (band (band (band (band hxb).2).2).2).2).2).2).2).2)
theorem cst_ZERO (KX : K.In base) (GX : base.Ns mainGlobals mg) (c : He.SaysD fa fn K) (hxb : xb K = true) : CstG K mg "ZERO" PG.v_ZERO := cst_of KX GX ((band hxb).1)
theorem cst_ONE (KX : K.In base) (GX : base.Ns mainGlobals mg) (c : He.SaysD fa fn K) (hxb : xb K = true) : CstG K mg "ONE" PG.v_ONE := cst_of KX GX ((band (band hxb).2).1)
theorem cst_IDENTITY (KX : K.In base) (GX : base.Ns mainGlobals mg) (c : He.SaysD fa fn K) (hxb : xb K = true) : CstG K mg "IDENTITY" PG.v_IDENTITY := cst_of KX GX ((band (band (band hxb).2).2).1)
theorem sc_common_divisor : FnScope (["first", "second", "one", "other"] : List Str) (["first", "second"] : List Str) (defScope s_common_divisor) := ⟨rfl, rfl, rfl, by decide +kernel, rfl, by decide +kernel, by decide +kernel⟩
theorem d_common_divisor {X : Cx} (am : Amb 0 X) (hN : X.N.Nodup) (hc : X.calm = true) (hxe : PassesOwn (model X.prog X.w) X.A X.env X.xe) (eN : X.N = (["first", "second", "one", "other"] : List Str)) (eS : X.env.scope = defScope s_common_divisor) (hfn : ∀ x, X.fn x = true) (fr_abs : X.mg "abs" = none) : JSs X (defBody s_common_divisor) PG.w_common_divisor := by
  have hr := am.rm
  have n0 : X.N[0]? = some ("first" : Str) := by rw [eN]; rfl
  have v0 : SlotOk X 0 "first" := slot_of eS eN hfn rfl (.inl rfl)
  have n1 : X.N[1]? = some ("second" : Str) := by rw [eN]; rfl
  have v1 : SlotOk X 1 "second" := slot_of eS eN hfn rfl (.inl rfl)
  have n2 : X.N[2]? = some ("one" : Str) := by rw [eN]; rfl
  have v2 : SlotOk X 2 "one" := slot_of eS eN hfn rfl (.inl rfl)
  have n3 : X.N[3]? = some ("other" : Str) := by rw [eN]; rfl
  have v3 : SlotOk X 3 "other" := slot_of eS eN hfn rfl (.inl rfl)
  have gl_abs : Gl X "abs" := gl_of eS rfl
  exact (js_cons (js_st hN v2 (je_bi b_abs gl_abs fr_abs RT.boot_abs (ja_cons (je_v v0) ja_nil)))
  (js_cons (js_st hN v3 (je_bi b_abs gl_abs fr_abs RT.boot_abs (ja_cons (je_v v1) ja_nil)))
  (js_cons (js_while hxe (jt_cmp o_gt (je_v v3) je_int (nomark _))
  (js_one (js_par (i := 2) (j := 3) hc hN n2 n3 (by decide) (by rw [eS]; rfl) (by rw [eS]; rfl) (ja_cons (je_v v3) (ja_cons (je_op o_mod (je_v v2) (je_v v3)) ja_nil)) (swap_ok (by rw [eS]; rfl) (by rw [eS]; rfl) (by rw [eS]; rfl) (by decide) rfl rfl rfl (by decide +kernel) (by decide +kernel)))))
  (js_one (js_ret (je_v v2))))))
theorem g_common_divisor (KX : K.In base) (GX : base.Ns mainGlobals mg) (c : He.SaysD fa fn K) (hxb : xb K = true) (hns : BaseOk K mg base) (htr : P.given.tree = none) : FnG P w K mg base "common_divisor" 1 PG.sp_common_divisor [] := by
  obtain ⟨fd, F⟩ := c.def_ 0 (d := dd_common_divisor) rfl
  unfold PG.sp_common_divisor
  exact mkG (N := (["first", "second", "one", "other"] : List Str)) false hns htr F (He.glo_ok KX GX (c.fact 0 (f := .glo "common_divisor") rfl)) sc_common_divisor rfl rfl (fun _ _ _ _ _ _ us hl => match us, hl with | [_, _], _ => rfl) (fun X cdv A outer s H E hX hcd am => by subst hX; exact d_common_divisor am sc_common_divisor.nd rfl PassesOwn.never rfl rfl (fun _ => rfl) (He.free_ok KX GX (c.fact 55 (f := .free "abs") rfl)))

theorem sc_fraction : FnScope (["numerator", "denominator", "divisor"] : List Str) (["numerator", "denominator"] : List Str) (defScope s_fraction) := ⟨rfl, rfl, rfl, by decide +kernel, rfl, by decide +kernel, by decide +kernel⟩
theorem d_fraction {X : Cx} (am : Amb 1 X) (hN : X.N.Nodup) (hc : X.calm = true) (hxe : PassesOwn (model X.prog X.w) X.A X.env X.xe) (eN : X.N = (["numerator", "denominator", "divisor"] : List Str)) (eS : X.env.scope = defScope s_fraction) (hfn : ∀ x, X.fn x = true) (G_common_divisor : FnG X.prog X.w X.K X.mg X.base "common_divisor" 1 PG.sp_common_divisor []) : JSs X (defBody s_fraction) PG.w_fraction := by
  have hr := am.rm
  have n0 : X.N[0]? = some ("numerator" : Str) := by rw [eN]; rfl
  have v0 : SlotOk X 0 "numerator" := slot_of eS eN hfn rfl (.inl rfl)
  have n1 : X.N[1]? = some ("denominator" : Str) := by rw [eN]; rfl
  have v1 : SlotOk X 1 "denominator" := slot_of eS eN hfn rfl (.inl rfl)
  have n2 : X.N[2]? = some ("divisor" : Str) := by rw [eN]; rfl
  have v2 : SlotOk X 2 "divisor" := slot_of eS eN hfn rfl (.inl rfl)
  have gl_common_divisor : Gl X "common_divisor" := gl_of eS rfl
  exact (js_cons (js_st hN v2 (je_cg G_common_divisor hr gl_common_divisor (ja_cons (je_v v0) (ja_cons (je_v v1) ja_nil))))
  (js_cons (js_if (jt_cmp o_lt (je_v v1) je_int (nomark _))
  (js_one (js_st hN v2 (je_neg (je_v v2))))
  js_nil)
  (js_one (js_ret (je_tup (ja_cons (je_op (o_fdiv am.py) (je_v v0) (je_v v2)) (ja_cons (je_op (o_fdiv am.py) (je_v v1) (je_v v2)) ja_nil)))))))
theorem g_fraction (KX : K.In base) (GX : base.Ns mainGlobals mg) (c : He.SaysD fa fn K) (hxb : xb K = true) (hns : BaseOk K mg base) (htr : P.given.tree = none) : FnG P w K mg base "fraction" 2 PG.sp_fraction [] ∧ FnG P w K mg base "fraction" 2 PG.sp_fraction [.d (.int 1)] := by
  obtain ⟨fd, F⟩ := c.def_ 1 (d := dd_fraction) rfl
  unfold PG.sp_fraction
  exact mkGd (N := (["numerator", "denominator", "divisor"] : List Str)) (i := 1) false hns htr F (He.glo_ok KX GX (c.fact 1 (f := .glo "fraction") rfl)) sc_fraction rfl rfl (fun T kV doc pm an cdv ct us its hu hi => match us, hu, its, hi with | [_, _], _, [_], _ => ⟨_, rfl, rfl⟩) (fun T kV doc pm an cdv ct us its hu hi => match us, hu, its, hi with | [_], _, [_], _ => ⟨_, rfl, rfl⟩) (fun X cdv A outer s H E hX hcd am => by subst hX; exact d_fraction am sc_fraction.nd rfl PassesOwn.never rfl rfl (fun _ => rfl) (g_common_divisor (P := P) (w := w) KX GX c hxb hns htr))

theorem sc_add : FnScope (["first", "second"] : List Str) (["first", "second"] : List Str) (defScope s_add) := ⟨rfl, rfl, rfl, by decide +kernel, rfl, by decide +kernel, by decide +kernel⟩
theorem d_add {X : Cx} (am : Amb 2 X) (hN : X.N.Nodup) (hc : X.calm = true) (hxe : PassesOwn (model X.prog X.w) X.A X.env X.xe) (eN : X.N = (["first", "second"] : List Str)) (eS : X.env.scope = defScope s_add) (hfn : ∀ x, X.fn x = true) (G_fraction : FnG X.prog X.w X.K X.mg X.base "fraction" 2 PG.sp_fraction []) : JSs X (defBody s_add) PG.w_add := by
  have hr := am.rm
  have n0 : X.N[0]? = some ("first" : Str) := by rw [eN]; rfl
  have v0 : SlotOk X 0 "first" := slot_of eS eN hfn rfl (.inl rfl)
  have n1 : X.N[1]? = some ("second" : Str) := by rw [eN]; rfl
  have v1 : SlotOk X 1 "second" := slot_of eS eN hfn rfl (.inl rfl)
  have gl_fraction : Gl X "fraction" := gl_of eS rfl
  exact (js_one (js_ret (je_cg G_fraction hr gl_fraction (ja_cons (je_op o_addA (je_op o_mul (je_ix (je_v v0) je_int) (je_ix (je_v v1) je_int)) (je_op o_mul (je_ix (je_v v1) je_int) (je_ix (je_v v0) je_int))) (ja_cons (je_op o_mul (je_ix (je_v v0) je_int) (je_ix (je_v v1) je_int)) ja_nil)))))
theorem g_add (KX : K.In base) (GX : base.Ns mainGlobals mg) (c : He.SaysD fa fn K) (hxb : xb K = true) (hns : BaseOk K mg base) (htr : P.given.tree = none) : FnG P w K mg base "add" 3 PG.sp_add [] := by
  obtain ⟨fd, F⟩ := c.def_ 2 (d := dd_add) rfl
  unfold PG.sp_add
  exact mkG (N := (["first", "second"] : List Str)) false hns htr F (He.glo_ok KX GX (c.fact 2 (f := .glo "add") rfl)) sc_add rfl rfl (fun _ _ _ _ _ _ us hl => match us, hl with | [_, _], _ => rfl) (fun X cdv A outer s H E hX hcd am => by subst hX; exact d_add am sc_add.nd rfl PassesOwn.never rfl rfl (fun _ => rfl) (g_fraction (P := P) (w := w) KX GX c hxb hns htr).1)

theorem sc_negative : FnScope (["value"] : List Str) (["value"] : List Str) (defScope s_negative) := ⟨rfl, rfl, rfl, by decide +kernel, rfl, by decide +kernel, by decide +kernel⟩
theorem d_negative {X : Cx} (am : Amb 0 X) (hN : X.N.Nodup) (hc : X.calm = true) (hxe : PassesOwn (model X.prog X.w) X.A X.env X.xe) (eN : X.N = (["value"] : List Str)) (eS : X.env.scope = defScope s_negative) (hfn : ∀ x, X.fn x = true) : JSs X (defBody s_negative) PG.w_negative := by
  have hr := am.rm
  have n0 : X.N[0]? = some ("value" : Str) := by rw [eN]; rfl
  have v0 : SlotOk X 0 "value" := slot_of eS eN hfn rfl (.inl rfl)
  exact (js_one (js_ret (je_tup (ja_cons (je_neg (je_ix (je_v v0) je_int)) (ja_cons (je_ix (je_v v0) je_int) ja_nil)))))
theorem g_negative (KX : K.In base) (GX : base.Ns mainGlobals mg) (c : He.SaysD fa fn K) (hxb : xb K = true) (hns : BaseOk K mg base) (htr : P.given.tree = none) : FnG P w K mg base "negative" 1 PG.sp_negative [] := by
  obtain ⟨fd, F⟩ := c.def_ 3 (d := dd_negative) rfl
  unfold PG.sp_negative
  exact mkG (N := (["value"] : List Str)) false hns htr F (He.glo_ok KX GX (c.fact 3 (f := .glo "negative") rfl)) sc_negative rfl rfl (fun _ _ _ _ _ _ us hl => match us, hl with | [_], _ => rfl) (fun X cdv A outer s H E hX hcd am => by subst hX; exact d_negative am sc_negative.nd rfl PassesOwn.never rfl rfl (fun _ => rfl))

theorem sc_subtract : FnScope (["first", "second"] : List Str) (["first", "second"] : List Str) (defScope s_subtract) := ⟨rfl, rfl, rfl, by decide +kernel, rfl, by decide +kernel, by decide +kernel⟩
theorem d_subtract {X : Cx} (am : Amb 3 X) (hN : X.N.Nodup) (hc : X.calm = true) (hxe : PassesOwn (model X.prog X.w) X.A X.env X.xe) (eN : X.N = (["first", "second"] : List Str)) (eS : X.env.scope = defScope s_subtract) (hfn : ∀ x, X.fn x = true) (G_negative : FnG X.prog X.w X.K X.mg X.base "negative" 1 PG.sp_negative []) (G_add : FnG X.prog X.w X.K X.mg X.base "add" 3 PG.sp_add []) : JSs X (defBody s_subtract) PG.w_subtract := by
  have hr := am.rm
  have n0 : X.N[0]? = some ("first" : Str) := by rw [eN]; rfl
  have v0 : SlotOk X 0 "first" := slot_of eS eN hfn rfl (.inl rfl)
  have n1 : X.N[1]? = some ("second" : Str) := by rw [eN]; rfl
  have v1 : SlotOk X 1 "second" := slot_of eS eN hfn rfl (.inl rfl)
  have gl_negative : Gl X "negative" := gl_of eS rfl
  have gl_add : Gl X "add" := gl_of eS rfl
  exact (js_one (js_ret (je_cg G_add hr gl_add (ja_cons (je_v v0) (ja_cons (je_cg G_negative hr gl_negative (ja_cons (je_v v1) ja_nil)) ja_nil)))))
theorem g_subtract (KX : K.In base) (GX : base.Ns mainGlobals mg) (c : He.SaysD fa fn K) (hxb : xb K = true) (hns : BaseOk K mg base) (htr : P.given.tree = none) : FnG P w K mg base "subtract" 4 PG.sp_subtract [] := by
  obtain ⟨fd, F⟩ := c.def_ 4 (d := dd_subtract) rfl
  unfold PG.sp_subtract
  exact mkG (N := (["first", "second"] : List Str)) false hns htr F (He.glo_ok KX GX (c.fact 4 (f := .glo "subtract") rfl)) sc_subtract rfl rfl (fun _ _ _ _ _ _ us hl => match us, hl with | [_, _], _ => rfl) (fun X cdv A outer s H E hX hcd am => by subst hX; exact d_subtract am sc_subtract.nd rfl PassesOwn.never rfl rfl (fun _ => rfl) (g_negative (P := P) (w := w) KX GX c hxb hns htr) (g_add (P := P) (w := w) KX GX c hxb hns htr))

theorem sc_multiply : FnScope (["first", "second"] : List Str) (["first", "second"] : List Str) (defScope s_multiply) := ⟨rfl, rfl, rfl, by decide +kernel, rfl, by decide +kernel, by decide +kernel⟩
theorem d_multiply {X : Cx} (am : Amb 2 X) (hN : X.N.Nodup) (hc : X.calm = true) (hxe : PassesOwn (model X.prog X.w) X.A X.env X.xe) (eN : X.N = (["first", "second"] : List Str)) (eS : X.env.scope = defScope s_multiply) (hfn : ∀ x, X.fn x = true) (G_fraction : FnG X.prog X.w X.K X.mg X.base "fraction" 2 PG.sp_fraction []) : JSs X (defBody s_multiply) PG.w_multiply := by
  have hr := am.rm
  have n0 : X.N[0]? = some ("first" : Str) := by rw [eN]; rfl
  have v0 : SlotOk X 0 "first" := slot_of eS eN hfn rfl (.inl rfl)
  have n1 : X.N[1]? = some ("second" : Str) := by rw [eN]; rfl
  have v1 : SlotOk X 1 "second" := slot_of eS eN hfn rfl (.inl rfl)
  have gl_fraction : Gl X "fraction" := gl_of eS rfl
  exact (js_one (js_ret (je_cg G_fraction hr gl_fraction (ja_cons (je_op o_mul (je_ix (je_v v0) je_int) (je_ix (je_v v1) je_int)) (ja_cons (je_op o_mul (je_ix (je_v v0) je_int) (je_ix (je_v v1) je_int)) ja_nil)))))
theorem g_multiply (KX : K.In base) (GX : base.Ns mainGlobals mg) (c : He.SaysD fa fn K) (hxb : xb K = true) (hns : BaseOk K mg base) (htr : P.given.tree = none) : FnG P w K mg base "multiply" 3 PG.sp_multiply [] := by
  obtain ⟨fd, F⟩ := c.def_ 5 (d := dd_multiply) rfl
  unfold PG.sp_multiply
  exact mkG (N := (["first", "second"] : List Str)) false hns htr F (He.glo_ok KX GX (c.fact 5 (f := .glo "multiply") rfl)) sc_multiply rfl rfl (fun _ _ _ _ _ _ us hl => match us, hl with | [_, _], _ => rfl) (fun X cdv A outer s H E hX hcd am => by subst hX; exact d_multiply am sc_multiply.nd rfl PassesOwn.never rfl rfl (fun _ => rfl) (g_fraction (P := P) (w := w) KX GX c hxb hns htr).1)

theorem sc_divide : FnScope (["first", "second"] : List Str) (["first", "second"] : List Str) (defScope s_divide) := ⟨rfl, rfl, rfl, by decide +kernel, rfl, by decide +kernel, by decide +kernel⟩
theorem d_divide {X : Cx} (am : Amb 2 X) (hN : X.N.Nodup) (hc : X.calm = true) (hxe : PassesOwn (model X.prog X.w) X.A X.env X.xe) (eN : X.N = (["first", "second"] : List Str)) (eS : X.env.scope = defScope s_divide) (hfn : ∀ x, X.fn x = true) (G_fraction : FnG X.prog X.w X.K X.mg X.base "fraction" 2 PG.sp_fraction []) : JSs X (defBody s_divide) PG.w_divide := by
  have hr := am.rm
  have n0 : X.N[0]? = some ("first" : Str) := by rw [eN]; rfl
  have v0 : SlotOk X 0 "first" := slot_of eS eN hfn rfl (.inl rfl)
  have n1 : X.N[1]? = some ("second" : Str) := by rw [eN]; rfl
  have v1 : SlotOk X 1 "second" := slot_of eS eN hfn rfl (.inl rfl)
  have gl_fraction : Gl X "fraction" := gl_of eS rfl
  exact (js_one (js_ret (je_cg G_fraction hr gl_fraction (ja_cons (je_op o_mul (je_ix (je_v v0) je_int) (je_ix (je_v v1) je_int)) (ja_cons (je_op o_mul (je_ix (je_v v0) je_int) (je_ix (je_v v1) je_int)) ja_nil)))))
theorem g_divide (KX : K.In base) (GX : base.Ns mainGlobals mg) (c : He.SaysD fa fn K) (hxb : xb K = true) (hns : BaseOk K mg base) (htr : P.given.tree = none) : FnG P w K mg base "divide" 3 PG.sp_divide [] := by
  obtain ⟨fd, F⟩ := c.def_ 6 (d := dd_divide) rfl
  unfold PG.sp_divide
  exact mkG (N := (["first", "second"] : List Str)) false hns htr F (He.glo_ok KX GX (c.fact 6 (f := .glo "divide") rfl)) sc_divide rfl rfl (fun _ _ _ _ _ _ us hl => match us, hl with | [_, _], _ => rfl) (fun X cdv A outer s H E hX hcd am => by subst hX; exact d_divide am sc_divide.nd rfl PassesOwn.never rfl rfl (fun _ => rfl) (g_fraction (P := P) (w := w) KX GX c hxb hns htr).1)

theorem sc_sign : FnScope (["value"] : List Str) (["value"] : List Str) (defScope s_sign) := ⟨rfl, rfl, rfl, by decide +kernel, rfl, by decide +kernel, by decide +kernel⟩
theorem d_sign {X : Cx} (am : Amb 0 X) (hN : X.N.Nodup) (hc : X.calm = true) (hxe : PassesOwn (model X.prog X.w) X.A X.env X.xe) (eN : X.N = (["value"] : List Str)) (eS : X.env.scope = defScope s_sign) (hfn : ∀ x, X.fn x = true) : JSs X (defBody s_sign) PG.w_sign := by
  have hr := am.rm
  have n0 : X.N[0]? = some ("value" : Str) := by rw [eN]; rfl
  have v0 : SlotOk X 0 "value" := slot_of eS eN hfn rfl (.inl rfl)
  exact (js_cons (js_if (jt_cmp o_gt (je_ix (je_v v0) je_int) je_int (nomark _))
  (js_one (js_ret je_int))
  js_nil)
  (js_cons (js_if (jt_cmp o_lt (je_ix (je_v v0) je_int) je_int (nomark _))
  (js_one (js_ret (je_neg je_int)))
  js_nil)
  (js_one (js_ret je_int))))
theorem g_sign (KX : K.In base) (GX : base.Ns mainGlobals mg) (c : He.SaysD fa fn K) (hxb : xb K = true) (hns : BaseOk K mg base) (htr : P.given.tree = none) : FnG P w K mg base "sign" 1 PG.sp_sign [] := by
  obtain ⟨fd, F⟩ := c.def_ 7 (d := dd_sign) rfl
  unfold PG.sp_sign
  exact mkG (N := (["value"] : List Str)) false hns htr F (He.glo_ok KX GX (c.fact 7 (f := .glo "sign") rfl)) sc_sign rfl rfl (fun _ _ _ _ _ _ us hl => match us, hl with | [_], _ => rfl) (fun X cdv A outer s H E hX hcd am => by subst hX; exact d_sign am sc_sign.nd rfl PassesOwn.never rfl rfl (fun _ => rfl))

theorem sc_compare : FnScope (["first", "second"] : List Str) (["first", "second"] : List Str) (defScope s_compare) := ⟨rfl, rfl, rfl, by decide +kernel, rfl, by decide +kernel, by decide +kernel⟩
theorem d_compare {X : Cx} (am : Amb 4 X) (hN : X.N.Nodup) (hc : X.calm = true) (hxe : PassesOwn (model X.prog X.w) X.A X.env X.xe) (eN : X.N = (["first", "second"] : List Str)) (eS : X.env.scope = defScope s_compare) (hfn : ∀ x, X.fn x = true) (G_subtract : FnG X.prog X.w X.K X.mg X.base "subtract" 4 PG.sp_subtract []) (G_sign : FnG X.prog X.w X.K X.mg X.base "sign" 1 PG.sp_sign []) : JSs X (defBody s_compare) PG.w_compare := by
  have hr := am.rm
  have n0 : X.N[0]? = some ("first" : Str) := by rw [eN]; rfl
  have v0 : SlotOk X 0 "first" := slot_of eS eN hfn rfl (.inl rfl)
  have n1 : X.N[1]? = some ("second" : Str) := by rw [eN]; rfl
  have v1 : SlotOk X 1 "second" := slot_of eS eN hfn rfl (.inl rfl)
  have gl_subtract : Gl X "subtract" := gl_of eS rfl
  have gl_sign : Gl X "sign" := gl_of eS rfl
  exact (js_one (js_ret (je_cg G_sign hr gl_sign (ja_cons (je_cg G_subtract hr gl_subtract (ja_cons (je_v v0) (ja_cons (je_v v1) ja_nil))) ja_nil))))
theorem g_compare (KX : K.In base) (GX : base.Ns mainGlobals mg) (c : He.SaysD fa fn K) (hxb : xb K = true) (hns : BaseOk K mg base) (htr : P.given.tree = none) : FnG P w K mg base "compare" 5 PG.sp_compare [] := by
  obtain ⟨fd, F⟩ := c.def_ 8 (d := dd_compare) rfl
  unfold PG.sp_compare
  exact mkG (N := (["first", "second"] : List Str)) false hns htr F (He.glo_ok KX GX (c.fact 8 (f := .glo "compare") rfl)) sc_compare rfl rfl (fun _ _ _ _ _ _ us hl => match us, hl with | [_, _], _ => rfl) (fun X cdv A outer s H E hX hcd am => by subst hX; exact d_compare am sc_compare.nd rfl PassesOwn.never rfl rfl (fun _ => rfl) (g_subtract (P := P) (w := w) KX GX c hxb hns htr) (g_sign (P := P) (w := w) KX GX c hxb hns htr))

theorem sc_is_less : FnScope (["first", "second"] : List Str) (["first", "second"] : List Str) (defScope s_is_less) := ⟨rfl, rfl, rfl, by decide +kernel, rfl, by decide +kernel, by decide +kernel⟩
theorem d_is_less {X : Cx} (am : Amb 5 X) (hN : X.N.Nodup) (hc : X.calm = true) (hxe : PassesOwn (model X.prog X.w) X.A X.env X.xe) (eN : X.N = (["first", "second"] : List Str)) (eS : X.env.scope = defScope s_is_less) (hfn : ∀ x, X.fn x = true) (G_compare : FnG X.prog X.w X.K X.mg X.base "compare" 5 PG.sp_compare []) : JSs X (defBody s_is_less) PG.w_is_less := by
  have hr := am.rm
  have n0 : X.N[0]? = some ("first" : Str) := by rw [eN]; rfl
  have v0 : SlotOk X 0 "first" := slot_of eS eN hfn rfl (.inl rfl)
  have n1 : X.N[1]? = some ("second" : Str) := by rw [eN]; rfl
  have v1 : SlotOk X 1 "second" := slot_of eS eN hfn rfl (.inl rfl)
  have gl_compare : Gl X "compare" := gl_of eS rfl
  exact (js_one (js_ret (je_cmp o_lt (je_cg G_compare hr gl_compare (ja_cons (je_v v0) (ja_cons (je_v v1) ja_nil))) je_int (nomark _))))
theorem g_is_less (KX : K.In base) (GX : base.Ns mainGlobals mg) (c : He.SaysD fa fn K) (hxb : xb K = true) (hns : BaseOk K mg base) (htr : P.given.tree = none) : FnG P w K mg base "is_less" 6 PG.sp_is_less [] := by
  obtain ⟨fd, F⟩ := c.def_ 9 (d := dd_is_less) rfl
  unfold PG.sp_is_less
  exact mkG (N := (["first", "second"] : List Str)) false hns htr F (He.glo_ok KX GX (c.fact 9 (f := .glo "is_less") rfl)) sc_is_less rfl rfl (fun _ _ _ _ _ _ us hl => match us, hl with | [_, _], _ => rfl) (fun X cdv A outer s H E hX hcd am => by subst hX; exact d_is_less am sc_is_less.nd rfl PassesOwn.never rfl rfl (fun _ => rfl) (g_compare (P := P) (w := w) KX GX c hxb hns htr))

theorem sc_least_of : FnScope (["values", "best", "value"] : List Str) (["values"] : List Str) (defScope s_least_of) := ⟨rfl, rfl, rfl, by decide +kernel, rfl, by decide +kernel, by decide +kernel⟩
theorem d_least_of {X : Cx} (am : Amb 6 X) (hN : X.N.Nodup) (hc : X.calm = true) (hxe : PassesOwn (model X.prog X.w) X.A X.env X.xe) (eN : X.N = (["values", "best", "value"] : List Str)) (eS : X.env.scope = defScope s_least_of) (hfn : ∀ x, X.fn x = true) (G_is_less : FnG X.prog X.w X.K X.mg X.base "is_less" 6 PG.sp_is_less []) : JSs X (defBody s_least_of) PG.w_least_of := by
  have hr := am.rm
  have n0 : X.N[0]? = some ("values" : Str) := by rw [eN]; rfl
  have v0 : SlotOk X 0 "values" := slot_of eS eN hfn rfl (.inl rfl)
  have n1 : X.N[1]? = some ("best" : Str) := by rw [eN]; rfl
  have v1 : SlotOk X 1 "best" := slot_of eS eN hfn rfl (.inl rfl)
  have n2 : X.N[2]? = some ("value" : Str) := by rw [eN]; rfl
  have v2 : SlotOk X 2 "value" := slot_of eS eN hfn rfl (.inl rfl)
  have gl_is_less : Gl X "is_less" := gl_of eS rfl
  exact (js_cons (js_st hN v1 je_non)
  (js_cons (js_for hxe hc (ji_any (je_v v0)) (jg_of (pg_v hN v2))
  (js_one (js_if (jw_pt (jw_and (jt_notN (je_v v2)) (jw_and1 (jw_pt (jw_or (jt_isN (je_v v1)) (jw_or1 (jt_tru (je_cg G_is_less hr gl_is_less (ja_cons (je_v v2) (ja_cons (je_v v1) ja_nil))))))))))
  (js_one (js_st hN v1 (je_v v2)))
  js_nil)))
  (js_one (js_ret (je_v v1)))))
theorem g_least_of (KX : K.In base) (GX : base.Ns mainGlobals mg) (c : He.SaysD fa fn K) (hxb : xb K = true) (hns : BaseOk K mg base) (htr : P.given.tree = none) : FnG P w K mg base "least_of" 7 PG.sp_least_of [] := by
  obtain ⟨fd, F⟩ := c.def_ 10 (d := dd_least_of) rfl
  unfold PG.sp_least_of
  exact mkG (N := (["values", "best", "value"] : List Str)) false hns htr F (He.glo_ok KX GX (c.fact 10 (f := .glo "least_of") rfl)) sc_least_of rfl rfl (fun _ _ _ _ _ _ us hl => match us, hl with | [_], _ => rfl) (fun X cdv A outer s H E hX hcd am => by subst hX; exact d_least_of am sc_least_of.nd rfl PassesOwn.never rfl rfl (fun _ => rfl) (g_is_less (P := P) (w := w) KX GX c hxb hns htr))

theorem sc_element_map : FnScope (["element"] : List Str) (["element"] : List Str) (defScope s_element_map) := ⟨rfl, rfl, rfl, by decide +kernel, rfl, by decide +kernel, by decide +kernel⟩
theorem d_element_map {X : Cx} (am : Amb 3 X) (hN : X.N.Nodup) (hc : X.calm = true) (hxe : PassesOwn (model X.prog X.w) X.A X.env X.xe) (eN : X.N = (["element"] : List Str)) (eS : X.env.scope = defScope s_element_map) (hfn : ∀ x, X.fn x = true) (G_multiply : FnG X.prog X.w X.K X.mg X.base "multiply" 3 PG.sp_multiply []) (G_negative : FnG X.prog X.w X.K X.mg X.base "negative" 1 PG.sp_negative []) (G_divide : FnG X.prog X.w X.K X.mg X.base "divide" 3 PG.sp_divide []) (C_ZERO : CstG X.K X.mg "ZERO" PG.v_ZERO) (C_ONE : CstG X.K X.mg "ONE" PG.v_ONE) (C_IDENTITY : CstG X.K X.mg "IDENTITY" PG.v_IDENTITY) : JSs X (defBody s_element_map) PG.w_element_map := by
  have hr := am.rm
  have n0 : X.N[0]? = some ("element" : Str) := by rw [eN]; rfl
  have v0 : SlotOk X 0 "element" := slot_of eS eN hfn rfl (.inl rfl)
  have gl_ZERO : Gl X "ZERO" := gl_of eS rfl
  have gl_ONE : Gl X "ONE" := gl_of eS rfl
  have gl_multiply : Gl X "multiply" := gl_of eS rfl
  have gl_negative : Gl X "negative" := gl_of eS rfl
  have gl_divide : Gl X "divide" := gl_of eS rfl
  have gl_IDENTITY : Gl X "IDENTITY" := gl_of eS rfl
  exact (js_cons (js_if (jt_cmp (o_eq hr) (je_ix (je_v v0) je_int) je_str (nomark _))
  (js_one (js_ret (je_tup (ja_cons (je_glob (C_ONE.at_ gl_ONE (by decide))) (ja_cons (je_ix (je_v v0) je_int) (ja_cons (je_glob (C_ZERO.at_ gl_ZERO (by decide))) (ja_cons (je_glob (C_ONE.at_ gl_ONE (by decide))) (ja_cons (je_glob (C_ZERO.at_ gl_ZERO (by decide))) (ja_cons (je_glob (C_ZERO.at_ gl_ZERO (by decide))) ja_nil)))))))))
  js_nil)
  (js_cons (js_if (jt_cmp (o_eq hr) (je_ix (je_v v0) je_int) je_str (nomark _))
  (js_one (js_ret (je_tup (ja_cons (je_glob (C_ONE.at_ gl_ONE (by decide))) (ja_cons (je_glob (C_ZERO.at_ gl_ZERO (by decide))) (ja_cons (je_cg G_negative hr gl_negative (ja_cons (je_ix (je_v v0) je_int) ja_nil)) (ja_cons (je_glob (C_ONE.at_ gl_ONE (by decide))) (ja_cons (je_glob (C_ZERO.at_ gl_ZERO (by decide))) (ja_cons (je_cg G_multiply hr gl_multiply (ja_cons (je_ix (je_v v0) je_int) (ja_cons (je_ix (je_v v0) je_int) ja_nil))) ja_nil)))))))))
  js_nil)
  (js_cons (js_if (jt_cmp (o_eq hr) (je_ix (je_v v0) je_int) je_str (nomark _))
  (js_one (js_ret (je_tup (ja_cons (je_glob (C_ONE.at_ gl_ONE (by decide))) (ja_cons (je_glob (C_ZERO.at_ gl_ZERO (by decide))) (ja_cons (je_glob (C_ZERO.at_ gl_ZERO (by decide))) (ja_cons (je_glob (C_ONE.at_ gl_ONE (by decide))) (ja_cons (je_glob (C_ZERO.at_ gl_ZERO (by decide))) (ja_cons (je_ix (je_v v0) je_int) ja_nil)))))))))
  js_nil)
  (js_cons (js_if (jt_cmp (o_eq hr) (je_ix (je_v v0) je_int) je_str (nomark _))
  (js_one (js_ret (je_tup (ja_cons (je_ix (je_v v0) je_int) (ja_cons (je_glob (C_ZERO.at_ gl_ZERO (by decide))) (ja_cons (je_glob (C_ZERO.at_ gl_ZERO (by decide))) (ja_cons (je_cg G_divide hr gl_divide (ja_cons (je_glob (C_ONE.at_ gl_ONE (by decide))) (ja_cons (je_ix (je_v v0) je_int) ja_nil))) (ja_cons (je_glob (C_ZERO.at_ gl_ZERO (by decide))) (ja_cons (je_glob (C_ZERO.at_ gl_ZERO (by decide))) ja_nil)))))))))
  js_nil)
  (js_one (js_ret (je_glob (C_IDENTITY.at_ gl_IDENTITY (by decide)))))))))
theorem g_element_map (KX : K.In base) (GX : base.Ns mainGlobals mg) (c : He.SaysD fa fn K) (hxb : xb K = true) (hns : BaseOk K mg base) (htr : P.given.tree = none) : FnG P w K mg base "element_map" 4 PG.sp_element_map [] := by
  obtain ⟨fd, F⟩ := c.def_ 11 (d := dd_element_map) rfl
  unfold PG.sp_element_map
  exact mkG (N := (["element"] : List Str)) false hns htr F (He.glo_ok KX GX (c.fact 11 (f := .glo "element_map") rfl)) sc_element_map rfl rfl (fun _ _ _ _ _ _ us hl => match us, hl with | [_], _ => rfl) (fun X cdv A outer s H E hX hcd am => by subst hX; exact d_element_map am sc_element_map.nd rfl PassesOwn.never rfl rfl (fun _ => rfl) (g_multiply (P := P) (w := w) KX GX c hxb hns htr) (g_negative (P := P) (w := w) KX GX c hxb hns htr) (g_divide (P := P) (w := w) KX GX c hxb hns htr) (cst_ZERO KX GX c hxb) (cst_ONE KX GX c hxb) (cst_IDENTITY KX GX c hxb))

theorem sc_weighted : FnScope (["first", "one", "second", "other"] : List Str) (["first", "one", "second", "other"] : List Str) (defScope s_weighted) := ⟨rfl, rfl, rfl, by decide +kernel, rfl, by decide +kernel, by decide +kernel⟩
theorem d_weighted {X : Cx} (am : Amb 3 X) (hN : X.N.Nodup) (hc : X.calm = true) (hxe : PassesOwn (model X.prog X.w) X.A X.env X.xe) (eN : X.N = (["first", "one", "second", "other"] : List Str)) (eS : X.env.scope = defScope s_weighted) (hfn : ∀ x, X.fn x = true) (G_multiply : FnG X.prog X.w X.K X.mg X.base "multiply" 3 PG.sp_multiply []) (G_add : FnG X.prog X.w X.K X.mg X.base "add" 3 PG.sp_add []) : JSs X (defBody s_weighted) PG.w_weighted := by
  have hr := am.rm
  have n0 : X.N[0]? = some ("first" : Str) := by rw [eN]; rfl
  have v0 : SlotOk X 0 "first" := slot_of eS eN hfn rfl (.inl rfl)
  have n1 : X.N[1]? = some ("one" : Str) := by rw [eN]; rfl
  have v1 : SlotOk X 1 "one" := slot_of eS eN hfn rfl (.inl rfl)
  have n2 : X.N[2]? = some ("second" : Str) := by rw [eN]; rfl
  have v2 : SlotOk X 2 "second" := slot_of eS eN hfn rfl (.inl rfl)
  have n3 : X.N[3]? = some ("other" : Str) := by rw [eN]; rfl
  have v3 : SlotOk X 3 "other" := slot_of eS eN hfn rfl (.inl rfl)
  have gl_multiply : Gl X "multiply" := gl_of eS rfl
  have gl_add : Gl X "add" := gl_of eS rfl
  exact (js_one (js_ret (je_cg G_add hr gl_add (ja_cons (je_cg G_multiply hr gl_multiply (ja_cons (je_v v0) (ja_cons (je_v v1) ja_nil))) (ja_cons (je_cg G_multiply hr gl_multiply (ja_cons (je_v v2) (ja_cons (je_v v3) ja_nil))) ja_nil)))))
theorem g_weighted (KX : K.In base) (GX : base.Ns mainGlobals mg) (c : He.SaysD fa fn K) (hxb : xb K = true) (hns : BaseOk K mg base) (htr : P.given.tree = none) : FnG P w K mg base "weighted" 4 PG.sp_weighted [] := by
  obtain ⟨fd, F⟩ := c.def_ 12 (d := dd_weighted) rfl
  unfold PG.sp_weighted
  exact mkG (N := (["first", "one", "second", "other"] : List Str)) false hns htr F (He.glo_ok KX GX (c.fact 12 (f := .glo "weighted") rfl)) sc_weighted rfl rfl (fun _ _ _ _ _ _ us hl => match us, hl with | [_, _, _, _], _ => rfl) (fun X cdv A outer s H E hX hcd am => by subst hX; exact d_weighted am sc_weighted.nd rfl PassesOwn.never rfl rfl (fun _ => rfl) (g_multiply (P := P) (w := w) KX GX c hxb hns htr) (g_add (P := P) (w := w) KX GX c hxb hns htr))

theorem sc_apply_map : FnScope (["map_used", "ray", "a", "b", "c", "d", "e", "f"] : List Str) (["map_used", "ray"] : List Str) (defScope s_apply_map) := ⟨rfl, rfl, rfl, by decide +kernel, rfl, by decide +kernel, by decide +kernel⟩
theorem d_apply_map {X : Cx} (am : Amb 4 X) (hN : X.N.Nodup) (hc : X.calm = true) (hxe : PassesOwn (model X.prog X.w) X.A X.env X.xe) (eN : X.N = (["map_used", "ray", "a", "b", "c", "d", "e", "f"] : List Str)) (eS : X.env.scope = defScope s_apply_map) (hfn : ∀ x, X.fn x = true) (G_weighted : FnG X.prog X.w X.K X.mg X.base "weighted" 4 PG.sp_weighted []) (G_add : FnG X.prog X.w X.K X.mg X.base "add" 3 PG.sp_add []) : JSs X (defBody s_apply_map) PG.w_apply_map := by
  have hr := am.rm
  have n0 : X.N[0]? = some ("map_used" : Str) := by rw [eN]; rfl
  have v0 : SlotOk X 0 "map_used" := slot_of eS eN hfn rfl (.inl rfl)
  have n1 : X.N[1]? = some ("ray" : Str) := by rw [eN]; rfl
  have v1 : SlotOk X 1 "ray" := slot_of eS eN hfn rfl (.inl rfl)
  have n2 : X.N[2]? = some ("a" : Str) := by rw [eN]; rfl
  have v2 : SlotOk X 2 "a" := slot_of eS eN hfn rfl (.inl rfl)
  have n3 : X.N[3]? = some ("b" : Str) := by rw [eN]; rfl
  have v3 : SlotOk X 3 "b" := slot_of eS eN hfn rfl (.inl rfl)
  have n4 : X.N[4]? = some ("c" : Str) := by rw [eN]; rfl
  have v4 : SlotOk X 4 "c" := slot_of eS eN hfn rfl (.inl rfl)
  have n5 : X.N[5]? = some ("d" : Str) := by rw [eN]; rfl
  have v5 : SlotOk X 5 "d" := slot_of eS eN hfn rfl (.inl rfl)
  have n6 : X.N[6]? = some ("e" : Str) := by rw [eN]; rfl
  have v6 : SlotOk X 6 "e" := slot_of eS eN hfn rfl (.inl rfl)
  have n7 : X.N[7]? = some ("f" : Str) := by rw [eN]; rfl
  have v7 : SlotOk X 7 "f" := slot_of eS eN hfn rfl (.inl rfl)
  have gl_weighted : Gl X "weighted" := gl_of eS rfl
  have gl_add : Gl X "add" := gl_of eS rfl
  exact (js_cons (js_asg (je_v v0) (jg_of (pg_tup hc (pgs_cons (pg_v hN v2) (pgs_cons (pg_v hN v3) (pgs_cons (pg_v hN v4) (pgs_cons (pg_v hN v5) (pgs_cons (pg_v hN v6) (pgs_cons (pg_v hN v7) pgs_nil)))))))))
  (js_one (js_ret (je_tup (ja_cons (je_cg G_add hr gl_add (ja_cons (je_cg G_weighted hr gl_weighted (ja_cons (je_v v2) (ja_cons (je_ix (je_v v1) je_int) (ja_cons (je_v v3) (ja_cons (je_ix (je_v v1) je_int) ja_nil))))) (ja_cons (je_v v6) ja_nil))) (ja_cons (je_cg G_add hr gl_add (ja_cons (je_cg G_weighted hr gl_weighted (ja_cons (je_v v4) (ja_cons (je_ix (je_v v1) je_int) (ja_cons (je_v v5) (ja_cons (je_ix (je_v v1) je_int) ja_nil))))) (ja_cons (je_v v7) ja_nil))) ja_nil))))))
theorem g_apply_map (KX : K.In base) (GX : base.Ns mainGlobals mg) (c : He.SaysD fa fn K) (hxb : xb K = true) (hns : BaseOk K mg base) (htr : P.given.tree = none) : FnG P w K mg base "apply_map" 5 PG.sp_apply_map [] := by
  obtain ⟨fd, F⟩ := c.def_ 13 (d := dd_apply_map) rfl
  unfold PG.sp_apply_map
  exact mkG (N := (["map_used", "ray", "a", "b", "c", "d", "e", "f"] : List Str)) false hns htr F (He.glo_ok KX GX (c.fact 13 (f := .glo "apply_map") rfl)) sc_apply_map rfl rfl (fun _ _ _ _ _ _ us hl => match us, hl with | [_, _], _ => rfl) (fun X cdv A outer s H E hX hcd am => by subst hX; exact d_apply_map am sc_apply_map.nd rfl PassesOwn.never rfl rfl (fun _ => rfl) (g_weighted (P := P) (w := w) KX GX c hxb hns htr) (g_add (P := P) (w := w) KX GX c hxb hns htr))

theorem sc_compose_maps : FnScope (["first", "second", "a", "b", "c", "d", "e", "f", "k", "m", "n", "o", "p", "q", "top", "bottom", "end"] : List Str) (["first", "second"] : List Str) (defScope s_compose_maps) := ⟨rfl, rfl, rfl, by decide +kernel, rfl, by decide +kernel, by decide +kernel⟩
theorem d_compose_maps {X : Cx} (am : Amb 4 X) (hN : X.N.Nodup) (hc : X.calm = true) (hxe : PassesOwn (model X.prog X.w) X.A X.env X.xe) (eN : X.N = (["first", "second", "a", "b", "c", "d", "e", "f", "k", "m", "n", "o", "p", "q", "top", "bottom", "end"] : List Str)) (eS : X.env.scope = defScope s_compose_maps) (hfn : ∀ x, X.fn x = true) (G_weighted : FnG X.prog X.w X.K X.mg X.base "weighted" 4 PG.sp_weighted []) (G_add : FnG X.prog X.w X.K X.mg X.base "add" 3 PG.sp_add []) : JSs X (defBody s_compose_maps) PG.w_compose_maps := by
  have hr := am.rm
  have n0 : X.N[0]? = some ("first" : Str) := by rw [eN]; rfl
  have v0 : SlotOk X 0 "first" := slot_of eS eN hfn rfl (.inl rfl)
  have n1 : X.N[1]? = some ("second" : Str) := by rw [eN]; rfl
  have v1 : SlotOk X 1 "second" := slot_of eS eN hfn rfl (.inl rfl)
  have n2 : X.N[2]? = some ("a" : Str) := by rw [eN]; rfl
  have v2 : SlotOk X 2 "a" := slot_of eS eN hfn rfl (.inl rfl)
  have n3 : X.N[3]? = some ("b" : Str) := by rw [eN]; rfl
  have v3 : SlotOk X 3 "b" := slot_of eS eN hfn rfl (.inl rfl)
  have n4 : X.N[4]? = some ("c" : Str) := by rw [eN]; rfl
  have v4 : SlotOk X 4 "c" := slot_of eS eN hfn rfl (.inl rfl)
  have n5 : X.N[5]? = some ("d" : Str) := by rw [eN]; rfl
  have v5 : SlotOk X 5 "d" := slot_of eS eN hfn rfl (.inl rfl)
  have n6 : X.N[6]? = some ("e" : Str) := by rw [eN]; rfl
  have v6 : SlotOk X 6 "e" := slot_of eS eN hfn rfl (.inl rfl)
  have n7 : X.N[7]? = some ("f" : Str) := by rw [eN]; rfl
  have v7 : SlotOk X 7 "f" := slot_of eS eN hfn rfl (.inl rfl)
  have n8 : X.N[8]? = some ("k" : Str) := by rw [eN]; rfl
  have v8 : SlotOk X 8 "k" := slot_of eS eN hfn rfl (.inl rfl)
  have n9 : X.N[9]? = some ("m" : Str) := by rw [eN]; rfl
  have v9 : SlotOk X 9 "m" := slot_of eS eN hfn rfl (.inl rfl)
  have n10 : X.N[10]? = some ("n" : Str) := by rw [eN]; rfl
  have v10 : SlotOk X 10 "n" := slot_of eS eN hfn rfl (.inl rfl)
  have n11 : X.N[11]? = some ("o" : Str) := by rw [eN]; rfl
  have v11 : SlotOk X 11 "o" := slot_of eS eN hfn rfl (.inl rfl)
  have n12 : X.N[12]? = some ("p" : Str) := by rw [eN]; rfl
  have v12 : SlotOk X 12 "p" := slot_of eS eN hfn rfl (.inl rfl)
  have n13 : X.N[13]? = some ("q" : Str) := by rw [eN]; rfl
  have v13 : SlotOk X 13 "q" := slot_of eS eN hfn rfl (.inl rfl)
  have n14 : X.N[14]? = some ("top" : Str) := by rw [eN]; rfl
  have v14 : SlotOk X 14 "top" := slot_of eS eN hfn rfl (.inl rfl)
  have n15 : X.N[15]? = some ("bottom" : Str) := by rw [eN]; rfl
  have v15 : SlotOk X 15 "bottom" := slot_of eS eN hfn rfl (.inl rfl)
  have n16 : X.N[16]? = some ("end" : Str) := by rw [eN]; rfl
  have v16 : SlotOk X 16 "end" := slot_of eS eN hfn rfl (.inl rfl)
  have gl_weighted : Gl X "weighted" := gl_of eS rfl
  have gl_add : Gl X "add" := gl_of eS rfl
  exact (js_cons (js_asg (je_v v0) (jg_of (pg_tup hc (pgs_cons (pg_v hN v2) (pgs_cons (pg_v hN v3) (pgs_cons (pg_v hN v4) (pgs_cons (pg_v hN v5) (pgs_cons (pg_v hN v6) (pgs_cons (pg_v hN v7) pgs_nil)))))))))
  (js_cons (js_asg (je_v v1) (jg_of (pg_tup hc (pgs_cons (pg_v hN v8) (pgs_cons (pg_v hN v9) (pgs_cons (pg_v hN v10) (pgs_cons (pg_v hN v11) (pgs_cons (pg_v hN v12) (pgs_cons (pg_v hN v13) pgs_nil)))))))))
  (js_cons (js_st hN v14 (je_tup (ja_cons (je_cg G_weighted hr gl_weighted (ja_cons (je_v v8) (ja_cons (je_v v2) (ja_cons (je_v v9) (ja_cons (je_v v4) ja_nil))))) (ja_cons (je_cg G_weighted hr gl_weighted (ja_cons (je_v v8) (ja_cons (je_v v3) (ja_cons (je_v v9) (ja_cons (je_v v5) ja_nil))))) ja_nil))))
  (js_cons (js_st hN v15 (je_tup (ja_cons (je_cg G_weighted hr gl_weighted (ja_cons (je_v v10) (ja_cons (je_v v2) (ja_cons (je_v v11) (ja_cons (je_v v4) ja_nil))))) (ja_cons (je_cg G_weighted hr gl_weighted (ja_cons (je_v v10) (ja_cons (je_v v3) (ja_cons (je_v v11) (ja_cons (je_v v5) ja_nil))))) ja_nil))))
  (js_cons (js_st hN v16 (je_tup (ja_cons (je_cg G_add hr gl_add (ja_cons (je_cg G_weighted hr gl_weighted (ja_cons (je_v v8) (ja_cons (je_v v6) (ja_cons (je_v v9) (ja_cons (je_v v7) ja_nil))))) (ja_cons (je_v v12) ja_nil))) (ja_cons (je_cg G_add hr gl_add (ja_cons (je_cg G_weighted hr gl_weighted (ja_cons (je_v v10) (ja_cons (je_v v6) (ja_cons (je_v v11) (ja_cons (je_v v7) ja_nil))))) (ja_cons (je_v v13) ja_nil))) ja_nil))))
  (js_one (js_ret (je_op o_addA (je_op o_addA (je_v v14) (je_v v15)) (je_v v16)))))))))
theorem g_compose_maps (KX : K.In base) (GX : base.Ns mainGlobals mg) (c : He.SaysD fa fn K) (hxb : xb K = true) (hns : BaseOk K mg base) (htr : P.given.tree = none) : FnG P w K mg base "compose_maps" 5 PG.sp_compose_maps [] := by
  obtain ⟨fd, F⟩ := c.def_ 14 (d := dd_compose_maps) rfl
  unfold PG.sp_compose_maps
  exact mkG (N := (["first", "second", "a", "b", "c", "d", "e", "f", "k", "m", "n", "o", "p", "q", "top", "bottom", "end"] : List Str)) false hns htr F (He.glo_ok KX GX (c.fact 14 (f := .glo "compose_maps") rfl)) sc_compose_maps rfl rfl (fun _ _ _ _ _ _ us hl => match us, hl with | [_, _], _ => rfl) (fun X cdv A outer s H E hX hcd am => by subst hX; exact d_compose_maps am sc_compose_maps.nd rfl PassesOwn.never rfl rfl (fun _ => rfl) (g_weighted (P := P) (w := w) KX GX c hxb hns htr) (g_add (P := P) (w := w) KX GX c hxb hns htr))

theorem sc_ray_transfer : FnScope (["train", "found", "element"] : List Str) (["train"] : List Str) (defScope s_ray_transfer) := ⟨rfl, rfl, rfl, by decide +kernel, rfl, by decide +kernel, by decide +kernel⟩
theorem d_ray_transfer {X : Cx} (am : Amb 5 X) (hN : X.N.Nodup) (hc : X.calm = true) (hxe : PassesOwn (model X.prog X.w) X.A X.env X.xe) (eN : X.N = (["train", "found", "element"] : List Str)) (eS : X.env.scope = defScope s_ray_transfer) (hfn : ∀ x, X.fn x = true) (G_element_map : FnG X.prog X.w X.K X.mg X.base "element_map" 4 PG.sp_element_map []) (G_compose_maps : FnG X.prog X.w X.K X.mg X.base "compose_maps" 5 PG.sp_compose_maps []) (C_IDENTITY : CstG X.K X.mg "IDENTITY" PG.v_IDENTITY) : JSs X (defBody s_ray_transfer) PG.w_ray_transfer := by
  have hr := am.rm
  have n0 : X.N[0]? = some ("train" : Str) := by rw [eN]; rfl
  have v0 : SlotOk X 0 "train" := slot_of eS eN hfn rfl (.inl rfl)
  have n1 : X.N[1]? = some ("found" : Str) := by rw [eN]; rfl
  have v1 : SlotOk X 1 "found" := slot_of eS eN hfn rfl (.inl rfl)
  have n2 : X.N[2]? = some ("element" : Str) := by rw [eN]; rfl
  have v2 : SlotOk X 2 "element" := slot_of eS eN hfn rfl (.inl rfl)
  have gl_IDENTITY : Gl X "IDENTITY" := gl_of eS rfl
  have gl_element_map : Gl X "element_map" := gl_of eS rfl
  have gl_compose_maps : Gl X "compose_maps" := gl_of eS rfl
  exact (js_cons (js_st hN v1 (je_glob (C_IDENTITY.at_ gl_IDENTITY (by decide))))
  (js_cons (js_for hxe hc (ji_any (je_v v0)) (jg_of (pg_v hN v2))
  (js_one (js_st hN v1 (je_cg G_compose_maps hr gl_compose_maps (ja_cons (je_v v1) (ja_cons (je_cg G_element_map hr gl_element_map (ja_cons (je_v v2) ja_nil)) ja_nil))))))
  (js_one (js_ret (je_v v1)))))
theorem g_ray_transfer (KX : K.In base) (GX : base.Ns mainGlobals mg) (c : He.SaysD fa fn K) (hxb : xb K = true) (hns : BaseOk K mg base) (htr : P.given.tree = none) : FnG P w K mg base "ray_transfer" 6 PG.sp_ray_transfer [] := by
  obtain ⟨fd, F⟩ := c.def_ 15 (d := dd_ray_transfer) rfl
  unfold PG.sp_ray_transfer
  exact mkG (N := (["train", "found", "element"] : List Str)) false hns htr F (He.glo_ok KX GX (c.fact 15 (f := .glo "ray_transfer") rfl)) sc_ray_transfer rfl rfl (fun _ _ _ _ _ _ us hl => match us, hl with | [_], _ => rfl) (fun X cdv A outer s H E hX hcd am => by subst hX; exact d_ray_transfer am sc_ray_transfer.nd rfl PassesOwn.never rfl rfl (fun _ => rfl) (g_element_map (P := P) (w := w) KX GX c hxb hns htr) (g_compose_maps (P := P) (w := w) KX GX c hxb hns htr) (cst_IDENTITY KX GX c hxb))

theorem sc_edges_of : FnScope (["train", "found", "index", "element"] : List Str) (["train"] : List Str) (defScope s_edges_of) := ⟨rfl, rfl, rfl, by decide +kernel, rfl, by decide +kernel, by decide +kernel⟩
theorem d_edges_of {X : Cx} (am : Amb 0 X) (hN : X.N.Nodup) (hc : X.calm = true) (hxe : PassesOwn (model X.prog X.w) X.A X.env X.xe) (eN : X.N = (["train", "found", "index", "element"] : List Str)) (eS : X.env.scope = defScope s_edges_of) (hfn : ∀ x, X.fn x = true) (fr_enumerate : X.mg "enumerate" = none) : JSs X (defBody s_edges_of) PG.w_edges_of_2 := by
  have hr := am.rm
  have n0 : X.N[0]? = some ("train" : Str) := by rw [eN]; rfl
  have v0 : SlotOk X 0 "train" := slot_of eS eN hfn rfl (.inl rfl)
  have n1 : X.N[1]? = some ("found" : Str) := by rw [eN]; rfl
  have v1 : SlotOk X 1 "found" := slot_of eS eN hfn rfl (.inl rfl)
  have n2 : X.N[2]? = some ("index" : Str) := by rw [eN]; rfl
  have v2 : SlotOk X 2 "index" := slot_of eS eN hfn rfl (.inl rfl)
  have n3 : X.N[3]? = some ("element" : Str) := by rw [eN]; rfl
  have v3 : SlotOk X 3 "element" := slot_of eS eN hfn rfl (.inl rfl)
  have gl_enumerate : Gl X "enumerate" := gl_of eS rfl
  exact (js_cons (js_st hN v1 (je_lstO ja_nil))
  (js_cons (js_for hxe hc (ji_enum gl_enumerate fr_enumerate (ja_cons (je_v v0) ja_nil)) (jg_of (pg_tup hc (pgs_cons (pg_v hN v2) (pgs_cons (pg_v hN v3) pgs_nil))))
  (js_one (js_if (jt_cmp (o_eq hr) (je_ix (je_v v3) je_int) je_str (nomark _))
  (js_cons (js_if (jt_notN (je_ix (je_v v3) je_int))
  (js_one (js_do (je_meth PySem.F.slot_list_append PySem.F.type_list_append m_append (je_v v1) (ja_cons (je_tup (ja_cons (je_tup (ja_cons (je_v v2) (ja_cons je_str ja_nil))) (ja_cons (je_ix (je_v v3) je_int) ja_nil))) ja_nil))))
  js_nil)
  (js_one (js_if (jt_notN (je_ix (je_v v3) je_int))
  (js_one (js_do (je_meth PySem.F.slot_list_append PySem.F.type_list_append m_append (je_v v1) (ja_cons (je_tup (ja_cons (je_tup (ja_cons (je_v v2) (ja_cons je_str ja_nil))) (ja_cons (je_ix (je_v v3) je_int) ja_nil))) ja_nil))))
  js_nil)))
  js_nil)))
  (js_one (js_ret (je_v v1)))))
theorem g_edges_of (KX : K.In base) (GX : base.Ns mainGlobals mg) (c : He.SaysD fa fn K) (hxb : xb K = true) (hns : BaseOk K mg base) (htr : P.given.tree = none) : FnG P w K mg base "edges_of" 1 PG.sp_edges_of_2 [] := by
  obtain ⟨fd, F⟩ := c.def_ 16 (d := dd_edges_of) rfl
  unfold PG.sp_edges_of_2
  exact mkG (N := (["train", "found", "index", "element"] : List Str)) false hns htr F (He.glo_ok KX GX (c.fact 16 (f := .glo "edges_of") rfl)) sc_edges_of rfl rfl (fun _ _ _ _ _ _ us hl => match us, hl with | [_], _ => rfl) (fun X cdv A outer s H E hX hcd am => by subst hX; exact d_edges_of am sc_edges_of.nd rfl PassesOwn.never rfl rfl (fun _ => rfl) (He.free_ok KX GX (c.fact 56 (f := .free "enumerate") rfl)))

theorem sc_clearance : FnScope (["train", "edge", "height", "ray", "there"] : List Str) (["train", "edge", "height", "ray"] : List Str) (defScope s_clearance) := ⟨rfl, rfl, rfl, by decide +kernel, rfl, by decide +kernel, by decide +kernel⟩
theorem d_clearance {X : Cx} (am : Amb 6 X) (hN : X.N.Nodup) (hc : X.calm = true) (hxe : PassesOwn (model X.prog X.w) X.A X.env X.xe) (eN : X.N = (["train", "edge", "height", "ray", "there"] : List Str)) (eS : X.env.scope = defScope s_clearance) (hfn : ∀ x, X.fn x = true) (G_ray_transfer : FnG X.prog X.w X.K X.mg X.base "ray_transfer" 6 PG.sp_ray_transfer []) (G_apply_map : FnG X.prog X.w X.K X.mg X.base "apply_map" 5 PG.sp_apply_map []) (G_subtract : FnG X.prog X.w X.K X.mg X.base "subtract" 4 PG.sp_subtract []) : JSs X (defBody s_clearance) PG.w_clearance := by
  have hr := am.rm
  have n0 : X.N[0]? = some ("train" : Str) := by rw [eN]; rfl
  have v0 : SlotOk X 0 "train" := slot_of eS eN hfn rfl (.inl rfl)
  have n1 : X.N[1]? = some ("edge" : Str) := by rw [eN]; rfl
  have v1 : SlotOk X 1 "edge" := slot_of eS eN hfn rfl (.inl rfl)
  have n2 : X.N[2]? = some ("height" : Str) := by rw [eN]; rfl
  have v2 : SlotOk X 2 "height" := slot_of eS eN hfn rfl (.inl rfl)
  have n3 : X.N[3]? = some ("ray" : Str) := by rw [eN]; rfl
  have v3 : SlotOk X 3 "ray" := slot_of eS eN hfn rfl (.inl rfl)
  have n4 : X.N[4]? = some ("there" : Str) := by rw [eN]; rfl
  have v4 : SlotOk X 4 "there" := slot_of eS eN hfn rfl (.inl rfl)
  have gl_ray_transfer : Gl X "ray_transfer" := gl_of eS rfl
  have gl_apply_map : Gl X "apply_map" := gl_of eS rfl
  have gl_subtract : Gl X "subtract" := gl_of eS rfl
  exact (js_cons (js_st hN v4 (je_ix (je_cg G_apply_map hr gl_apply_map (ja_cons (je_cg G_ray_transfer hr gl_ray_transfer (ja_cons (je_sl false (je_v v0) jo_none (jo_some (je_ix (je_v v1) je_int))) ja_nil)) (ja_cons (je_v v3) ja_nil))) je_int))
  (js_cons (js_if (jt_cmp (o_eq hr) (je_ix (je_v v1) je_int) je_str (nomark _))
  (js_one (js_ret (je_cg G_subtract hr gl_subtract (ja_cons (je_v v4) (ja_cons (je_v v2) ja_nil)))))
  js_nil)
  (js_one (js_ret (je_cg G_subtract hr gl_subtract (ja_cons (je_v v2) (ja_cons (je_v v4) ja_nil)))))))
theorem g_clearance (KX : K.In base) (GX : base.Ns mainGlobals mg) (c : He.SaysD fa fn K) (hxb : xb K = true) (hns : BaseOk K mg base) (htr : P.given.tree = none) : FnG P w K mg base "clearance" 7 PG.sp_clearance [] := by
  obtain ⟨fd, F⟩ := c.def_ 17 (d := dd_clearance) rfl
  unfold PG.sp_clearance
  exact mkG (N := (["train", "edge", "height", "ray", "there"] : List Str)) false hns htr F (He.glo_ok KX GX (c.fact 17 (f := .glo "clearance") rfl)) sc_clearance rfl rfl (fun _ _ _ _ _ _ us hl => match us, hl with | [_, _, _, _], _ => rfl) (fun X cdv A outer s H E hX hcd am => by subst hX; exact d_clearance am sc_clearance.nd rfl PassesOwn.never rfl rfl (fun _ => rfl) (g_ray_transfer (P := P) (w := w) KX GX c hxb hns htr) (g_apply_map (P := P) (w := w) KX GX c hxb hns htr) (g_subtract (P := P) (w := w) KX GX c hxb hns htr))

theorem sc_clearances : FnScope (["train", "rays", "edge", "height", "ray"] : List Str) (["train", "rays"] : List Str) (defScope s_clearances) := ⟨rfl, rfl, rfl, by decide +kernel, rfl, by decide +kernel, by decide +kernel⟩
theorem d_clearances {X : Cx} (am : Amb 7 X) (hN : X.N.Nodup) (hc : X.calm = true) (hxe : PassesOwn (model X.prog X.w) X.A X.env X.xe) (eN : X.N = (["train", "rays", "edge", "height", "ray"] : List Str)) (eS : X.env.scope = defScope s_clearances) (hfn : ∀ x, X.fn x = true) (G_edges_of : FnG X.prog X.w X.K X.mg X.base "edges_of" 1 PG.sp_edges_of_2 []) (G_clearance : FnG X.prog X.w X.K X.mg X.base "clearance" 7 PG.sp_clearance []) (G_least_of : FnG X.prog X.w X.K X.mg X.base "least_of" 7 PG.sp_least_of []) : JSs X (defBody s_clearances) PG.w_clearances := by
  have hr := am.rm
  have n0 : X.N[0]? = some ("train" : Str) := by rw [eN]; rfl
  have v0 : SlotOk X 0 "train" := slot_of eS eN hfn rfl (.inr rfl)
  have n1 : X.N[1]? = some ("rays" : Str) := by rw [eN]; rfl
  have v1 : SlotOk X 1 "rays" := slot_of eS eN hfn rfl (.inr rfl)
  have n2 : X.N[2]? = some ("edge" : Str) := by rw [eN]; rfl
  have n3 : X.N[3]? = some ("height" : Str) := by rw [eN]; rfl
  have n4 : X.N[4]? = some ("ray" : Str) := by rw [eN]; rfl
  have gl_edges_of : Gl X "edges_of" := gl_of eS rfl
  exact (js_cons (js_if (jt_not (jt_tru (je_v v1)))
  (js_one js_never)
  js_nil)
  (js_one (js_ret (je_lc false (own' := [("edge", 2), ("height", 3)]) (by decide) hc hN (ji_any (je_cg G_edges_of hr gl_edges_of (ja_cons (je_v v0) ja_nil))) (blk_of eN eS (own := [("edge", 2), ("height", 3)]) (by decide +kernel)) (fun s H C cl fp => (jg_of (pg_tup hc (pgs_cons (pg_name (i := 2) hN n2 (by first | exact .inl rfl | exact .inr rfl)) (pgs_cons (pg_name (i := 3) hN n3 (by first | exact .inl rfl | exact .inr rfl)) pgs_nil))))) (fun s H C cl fp => jts_nil) (fun s H C cl fp => (je_tup (ja_cons (je_var 2 n2 (hv := (by first | exact Or.inl rfl | exact Or.inr (Or.inl rfl) | exact vis_free (by decide +kernel)))) (ja_cons (je_cg G_least_of hr (by rfl) (ja_cons (je_lc false (own' := [("ray", 4)]) (by decide) hc hN (ji_any (je_var 1 n1 (hv := vis_free (by decide +kernel)))) (blk_in eN eS (own := [("ray", 4)]) (by decide +kernel)) (fun s H C cl fp => (jg_of (pg_name (i := 4) hN n4 (by first | exact .inl rfl | exact .inr rfl)))) (fun s H C cl fp => jts_nil) (fun s H C cl fp => (je_cg G_clearance hr (by rfl) (ja_cons (je_var 0 n0 (hv := vis_free (by decide +kernel))) (ja_cons (je_var 2 n2 (hv := (by first | exact Or.inl rfl | exact Or.inr (Or.inl rfl) | exact vis_free (by decide +kernel)))) (ja_cons (je_var 3 n3 (hv := (by first | exact Or.inl rfl | exact Or.inr (Or.inl rfl) | exact vis_free (by decide +kernel)))) (ja_cons (je_var 4 n4 (hv := (by first | exact Or.inl rfl | exact Or.inr (Or.inl rfl) | exact vis_free (by decide +kernel)))) ja_nil))))))) ja_nil)) ja_nil))))))))
theorem g_clearances (KX : K.In base) (GX : base.Ns mainGlobals mg) (c : He.SaysD fa fn K) (hxb : xb K = true) (hns : BaseOk K mg base) (htr : P.given.tree = none) : FnG P w K mg base "clearances" 8 PG.sp_clearances [] := by
  obtain ⟨fd, F⟩ := c.def_ 18 (d := dd_clearances) rfl
  unfold PG.sp_clearances
  exact mkG (N := (["train", "rays", "edge", "height", "ray"] : List Str)) false hns htr F (He.glo_ok KX GX (c.fact 18 (f := .glo "clearances") rfl)) sc_clearances rfl rfl (fun _ _ _ _ _ _ us hl => match us, hl with | [_, _], _ => rfl) (fun X cdv A outer s H E hX hcd am => by subst hX; exact d_clearances am sc_clearances.nd rfl PassesOwn.never rfl rfl (fun _ => rfl) (g_edges_of (P := P) (w := w) KX GX c hxb hns htr) (g_clearance (P := P) (w := w) KX GX c hxb hns htr) (g_least_of (P := P) (w := w) KX GX c hxb hns htr))

theorem dx_clearances {X : Cx} {Wx : WX} (tk : Takes X Wx) (am : Amb 7 X) (hN : X.N.Nodup) (hc : X.calm = true) (eN : X.N = (["train", "rays", "edge", "height", "ray"] : List Str)) (eS : X.env.scope = defScope s_clearances) (hfn : ∀ x, X.fn x = true) (E : ExcG X.K X.mg "NoRays") : JXs X Wx (defBody s_clearances) PG.w_x_clearances := by
  have hr := am.rm
  obtain ⟨D, ef, em⟩ := E
  have n0 : X.N[0]? = some ("train" : Str) := by rw [eN]; rfl
  have v0 : SlotOk X 0 "train" := slot_of eS eN hfn rfl (.inr rfl)
  have n1 : X.N[1]? = some ("rays" : Str) := by rw [eN]; rfl
  have v1 : SlotOk X 1 "rays" := slot_of eS eN hfn rfl (.inr rfl)
  have n2 : X.N[2]? = some ("edge" : Str) := by rw [eN]; rfl
  have n3 : X.N[3]? = some ("height" : Str) := by rw [eN]; rfl
  have n4 : X.N[4]? = some ("ray" : Str) := by rw [eN]; rfl
  have gl_NoRays : Gl X "NoRays" := gl_of eS rfl
  exact (jx_if (jt_not (jt_tru (je_v v1))) (jx_raise hc tk gl_NoRays ef em))
theorem gx_clearances (KX : K.In base) (GX : base.Ns mainGlobals mg) (c : He.SaysD fa fn K) (hxb : xb K = true) (hns : BaseOk K mg base) (htr : P.given.tree = none) : FnX P w K mg base "clearances" 8 PG.sp_x_clearances := by
  obtain ⟨fd, F⟩ := c.def_ 18 (d := dd_clearances) rfl
  unfold PG.sp_x_clearances
  exact mkX (N := (["train", "rays", "edge", "height", "ray"] : List Str)) hns htr F (He.glo_ok KX GX (c.fact 18 (f := .glo "clearances") rfl)) sc_clearances rfl rfl (fun _ _ _ _ _ _ us hl => match us, hl with | [_, _], _ => rfl) (fun X Wx cdv A outer s H E hX tk am => by subst hX; exact dx_clearances tk am sc_clearances.nd rfl rfl rfl (fun _ => rfl) (e_excB_NoRays KX GX hxb))

theorem sc__law_cell : FnScope (["_law_script", "_law_k"] : List Str) (["_law_script", "_law_k"] : List Str) (defScope s__law_cell) := ⟨rfl, rfl, rfl, by decide +kernel, rfl, by decide +kernel, by decide +kernel⟩
theorem d__law_cell {X : Cx} (am : Amb 0 X) (hN : X.N.Nodup) (hc : X.calm = true) (hxe : PassesOwn (model X.prog X.w) X.A X.env X.xe) (eN : X.N = (["_law_script", "_law_k"] : List Str)) (eS : X.env.scope = defScope s__law_cell) (hfn : ∀ x, X.fn x = true) (fr_len : X.mg "len" = none) : JSs X (defBody s__law_cell) PG.w__law_cell := by
  have hr := am.rm
  have n0 : X.N[0]? = some ("_law_script" : Str) := by rw [eN]; rfl
  have v0 : SlotOk X 0 "_law_script" := slot_of eS eN hfn rfl (.inl rfl)
  have n1 : X.N[1]? = some ("_law_k" : Str) := by rw [eN]; rfl
  have v1 : SlotOk X 1 "_law_k" := slot_of eS eN hfn rfl (.inl rfl)
  have gl_len : Gl X "len" := gl_of eS rfl
  exact (js_cons (js_if (jt_cmp o_lt (je_v v1) (je_bi b_len gl_len fr_len RT.boot_len (ja_cons (je_v v0) ja_nil)) (nomark _))
  (js_one (js_ret (je_ix (je_v v0) (je_v v1))))
  js_nil)
  (js_one (js_ret je_int)))
theorem g__law_cell (KX : K.In base) (GX : base.Ns mainGlobals mg) (c : He.SaysD fa fn K) (hxb : xb K = true) (hns : BaseOk K mg base) (htr : P.given.tree = none) : FnG P w K mg base "_law_cell" 1 PG.sp__law_cell [] := by
  obtain ⟨fd, F⟩ := c.def_ 19 (d := dd__law_cell) rfl
  unfold PG.sp__law_cell
  exact mkG (N := (["_law_script", "_law_k"] : List Str)) false hns htr F (He.glo_ok KX GX (c.fact 19 (f := .glo "_law_cell") rfl)) sc__law_cell rfl rfl (fun _ _ _ _ _ _ us hl => match us, hl with | [_, _], _ => rfl) (fun X cdv A outer s H E hX hcd am => by subst hX; exact d__law_cell am sc__law_cell.nd rfl PassesOwn.never rfl rfl (fun _ => rfl) (He.free_ok KX GX (c.fact 57 (f := .free "len") rfl)))

theorem sc__law_row : FnScope (["_law_cell_here", "_law_k", "_law_many", "_law_row_here", "_law_turn", "_law_seed"] : List Str) (["_law_cell_here", "_law_k", "_law_many"] : List Str) (defScope s__law_row) := ⟨rfl, rfl, rfl, by decide +kernel, rfl, by decide +kernel, by decide +kernel⟩
theorem d__law_row {X : Cx} (am : Amb 0 X) (hN : X.N.Nodup) (hc : X.calm = true) (hxe : PassesOwn (model X.prog X.w) X.A X.env X.xe) (eN : X.N = (["_law_cell_here", "_law_k", "_law_many", "_law_row_here", "_law_turn", "_law_seed"] : List Str)) (eS : X.env.scope = defScope s__law_row) (hfn : ∀ x, X.fn x = true) (fr_range : X.mg "range" = none) (fr_len : X.mg "len" = none) (fr_int : X.mg "int" = none) : JSs X (defBody s__law_row) PG.w__law_row := by
  have hr := am.rm
  have n0 : X.N[0]? = some ("_law_cell_here" : Str) := by rw [eN]; rfl
  have v0 : SlotOk X 0 "_law_cell_here" := slot_of eS eN hfn rfl (.inl rfl)
  have n1 : X.N[1]? = some ("_law_k" : Str) := by rw [eN]; rfl
  have v1 : SlotOk X 1 "_law_k" := slot_of eS eN hfn rfl (.inl rfl)
  have n2 : X.N[2]? = some ("_law_many" : Str) := by rw [eN]; rfl
  have v2 : SlotOk X 2 "_law_many" := slot_of eS eN hfn rfl (.inl rfl)
  have n3 : X.N[3]? = some ("_law_row_here" : Str) := by rw [eN]; rfl
  have v3 : SlotOk X 3 "_law_row_here" := slot_of eS eN hfn rfl (.inl rfl)
  have n4 : X.N[4]? = some ("_law_turn" : Str) := by rw [eN]; rfl
  have v4 : SlotOk X 4 "_law_turn" := slot_of eS eN hfn rfl (.inl rfl)
  have n5 : X.N[5]? = some ("_law_seed" : Str) := by rw [eN]; rfl
  have v5 : SlotOk X 5 "_law_seed" := slot_of eS eN hfn rfl (.inl rfl)
  have gl_range : Gl X "range" := gl_of eS rfl
  have gl_len : Gl X "len" := gl_of eS rfl
  have gl_int : Gl X "int" := gl_of eS rfl
  exact (js_cons (js_st hN v3 (je_lstO ja_nil))
  (js_cons (js_if (jt_cmp o_lt (je_v v0) je_int (nomark _))
  (js_one (js_st hN v0 (je_op o_sub je_int (je_op o_mul je_int (je_v v0)))))
  js_nil)
  (js_cons (js_if (jt_cmp o_ge (je_v v0) (je_op o_pow je_int je_int) (nomark _))
  (js_cons (js_for hxe hc (ji_range1 gl_range fr_range (ja_cons je_int ja_nil)) (jg_of (pg_v hN v4))
  (js_one (js_if (jw_pt (jw_and (jt_cmp o_gt (je_v v0) je_int (nomark _)) (jw_and1 (jt_cmp o_lt (je_bi b_len gl_len fr_len RT.boot_len (ja_cons (je_v v3) ja_nil)) (je_v v2) (nomark _)))))
  (js_cons (js_do (je_meth PySem.F.slot_list_append PySem.F.type_list_append m_append (je_v v3) (ja_cons (je_op o_mod (je_bty b_int gl_int fr_int RT.boot_int (ja_cons (je_v v0) ja_nil)) je_int) ja_nil)))
  (js_one (js_st hN v0 (je_op (o_fdiv am.py) (je_v v0) je_int))))
  js_nil)))
  (js_one (js_ret (je_v v3))))
  js_nil)
  (js_cons (js_st hN v5 (je_op o_mod (je_bty b_int gl_int fr_int RT.boot_int (ja_cons (je_op o_addA (je_op o_addA (je_op o_mul (je_v v0) je_int) (je_op o_mul (je_v v1) je_int)) je_int) ja_nil)) je_int))
  (js_cons (js_for hxe hc (ji_range1 gl_range fr_range (ja_cons (je_v v2) ja_nil)) (jg_of (pg_v hN v4))
  (js_cons (js_st hN v5 (je_op o_mod (je_bty b_int gl_int fr_int RT.boot_int (ja_cons (je_op o_addA (je_op o_addA (je_op o_mul (je_v v5) je_int) (je_op o_mul je_int (je_v v4))) je_int) ja_nil)) je_int))
  (js_one (js_do (je_meth PySem.F.slot_list_append PySem.F.type_list_append m_append (je_v v3) (ja_cons (je_op o_mod (je_bty b_int gl_int fr_int RT.boot_int (ja_cons (je_op (o_fdiv am.py) (je_v v5) je_int) ja_nil)) je_int) ja_nil))))))
  (js_one (js_ret (je_v v3))))))))
theorem g__law_row (KX : K.In base) (GX : base.Ns mainGlobals mg) (c : He.SaysD fa fn K) (hxb : xb K = true) (hns : BaseOk K mg base) (htr : P.given.tree = none) : FnG P w K mg base "_law_row" 1 PG.sp__law_row [] := by
  obtain ⟨fd, F⟩ := c.def_ 20 (d := dd__law_row) rfl
  unfold PG.sp__law_row
  exact mkG (N := (["_law_cell_here", "_law_k", "_law_many", "_law_row_here", "_law_turn", "_law_seed"] : List Str)) false hns htr F (He.glo_ok KX GX (c.fact 20 (f := .glo "_law_row") rfl)) sc__law_row rfl rfl (fun _ _ _ _ _ _ us hl => match us, hl with | [_, _, _], _ => rfl) (fun X cdv A outer s H E hX hcd am => by subst hX; exact d__law_row am sc__law_row.nd rfl PassesOwn.never rfl rfl (fun _ => rfl) (He.free_ok KX GX (c.fact 58 (f := .free "range") rfl)) (He.free_ok KX GX (c.fact 57 (f := .free "len") rfl)) (He.free_ok KX GX (c.fact 59 (f := .free "int") rfl)))

theorem sc__law_box : FnScope (["_law_script", "_law_first", "_law_last", "_law_row_here", "_law_k"] : List Str) (["_law_script", "_law_first", "_law_last"] : List Str) (defScope s__law_box) := ⟨rfl, rfl, rfl, by decide +kernel, rfl, by decide +kernel, by decide +kernel⟩
theorem d__law_box {X : Cx} (am : Amb 1 X) (hN : X.N.Nodup) (hc : X.calm = true) (hxe : PassesOwn (model X.prog X.w) X.A X.env X.xe) (eN : X.N = (["_law_script", "_law_first", "_law_last", "_law_row_here", "_law_k"] : List Str)) (eS : X.env.scope = defScope s__law_box) (hfn : ∀ x, X.fn x = true) (fr_range : X.mg "range" = none) (G__law_cell : FnG X.prog X.w X.K X.mg X.base "_law_cell" 1 PG.sp__law_cell []) (G__law_row : FnG X.prog X.w X.K X.mg X.base "_law_row" 1 PG.sp__law_row []) : JSs X (defBody s__law_box) PG.w__law_box := by
  have hr := am.rm
  have n0 : X.N[0]? = some ("_law_script" : Str) := by rw [eN]; rfl
  have v0 : SlotOk X 0 "_law_script" := slot_of eS eN hfn rfl (.inl rfl)
  have n1 : X.N[1]? = some ("_law_first" : Str) := by rw [eN]; rfl
  have v1 : SlotOk X 1 "_law_first" := slot_of eS eN hfn rfl (.inl rfl)
  have n2 : X.N[2]? = some ("_law_last" : Str) := by rw [eN]; rfl
  have v2 : SlotOk X 2 "_law_last" := slot_of eS eN hfn rfl (.inl rfl)
  have n3 : X.N[3]? = some ("_law_row_here" : Str) := by rw [eN]; rfl
  have v3 : SlotOk X 3 "_law_row_here" := slot_of eS eN hfn rfl (.inl rfl)
  have n4 : X.N[4]? = some ("_law_k" : Str) := by rw [eN]; rfl
  have v4 : SlotOk X 4 "_law_k" := slot_of eS eN hfn rfl (.inl rfl)
  have gl_range : Gl X "range" := gl_of eS rfl
  have gl__law_cell : Gl X "_law_cell" := gl_of eS rfl
  have gl__law_row : Gl X "_law_row" := gl_of eS rfl
  exact (js_cons (js_st hN v3 (je_lst ja_nil))
  (js_cons (js_for hxe hc (ji_range2 gl_range fr_range (ja_cons (je_v v1) (ja_cons (je_v v2) ja_nil))) (jg_of (pg_v hN v4))
  (js_one (js_st hN v3 (je_op o_addA (je_v v3) (je_cg G__law_row hr gl__law_row (ja_cons (je_cg G__law_cell hr gl__law_cell (ja_cons (je_v v0) (ja_cons (je_v v4) ja_nil))) (ja_cons (je_v v4) (ja_cons je_int ja_nil))))))))
  (js_one (js_ret (je_lstO (ja_cons (je_v v3) (ja_cons je_int ja_nil)))))))
theorem g__law_box (KX : K.In base) (GX : base.Ns mainGlobals mg) (c : He.SaysD fa fn K) (hxb : xb K = true) (hns : BaseOk K mg base) (htr : P.given.tree = none) : FnG P w K mg base "_law_box" 2 PG.sp__law_box [] := by
  obtain ⟨fd, F⟩ := c.def_ 21 (d := dd__law_box) rfl
  unfold PG.sp__law_box
  exact mkG (N := (["_law_script", "_law_first", "_law_last", "_law_row_here", "_law_k"] : List Str)) true hns htr F (He.glo_ok KX GX (c.fact 21 (f := .glo "_law_box") rfl)) sc__law_box rfl rfl (fun _ _ _ _ _ _ us hl => match us, hl with | [_, _, _], _ => rfl) (fun X cdv A outer s H E hX hcd am => by subst hX; exact d__law_box am sc__law_box.nd rfl PassesOwn.never rfl rfl (fun _ => rfl) (He.free_ok KX GX (c.fact 58 (f := .free "range") rfl)) (g__law_cell (P := P) (w := w) KX GX c hxb hns htr) (g__law_row (P := P) (w := w) KX GX c hxb hns htr))

theorem sc__law_draw : FnScope (["_law_box_here", "_law_many", "_law_at"] : List Str) (["_law_box_here", "_law_many"] : List Str) (defScope s__law_draw) := ⟨rfl, rfl, rfl, by decide +kernel, rfl, by decide +kernel, by decide +kernel⟩
theorem d__law_draw {X : Cx} (am : Amb 0 X) (hN : X.N.Nodup) (hc : X.calm = true) (hxe : PassesOwn (model X.prog X.w) X.A X.env X.xe) (eN : X.N = (["_law_box_here", "_law_many", "_law_at"] : List Str)) (eS : X.env.scope = defScope s__law_draw) (hfn : ∀ x, X.fn x = true) (fr_len : X.mg "len" = none) (fr_int : X.mg "int" = none) : JSs X (defBody s__law_draw) PG.w__law_draw_2 := by
  have hr := am.rm
  have n0 : X.N[0]? = some ("_law_box_here" : Str) := by rw [eN]; rfl
  have v0 : SlotOk X 0 "_law_box_here" := slot_of eS eN hfn rfl (.inl rfl)
  have n1 : X.N[1]? = some ("_law_many" : Str) := by rw [eN]; rfl
  have v1 : SlotOk X 1 "_law_many" := slot_of eS eN hfn rfl (.inl rfl)
  have n2 : X.N[2]? = some ("_law_at" : Str) := by rw [eN]; rfl
  have v2 : SlotOk X 2 "_law_at" := slot_of eS eN hfn rfl (.inl rfl)
  have gl_len : Gl X "len" := gl_of eS rfl
  have gl_int : Gl X "int" := gl_of eS rfl
  exact (js_cons (js_st hN v2 (je_ix (je_v v0) je_int))
  (js_cons (js_setIx (je_op o_addA (je_v v2) je_int) (pg_sub (je_v v0) je_int set_list))
  (js_cons (js_if (jt_cmp o_lt (je_v v2) (je_bi b_len gl_len fr_len RT.boot_len (ja_cons (je_ix (je_v v0) je_int) ja_nil)) (nomark _))
  (js_one (js_ret (je_op o_mod (je_bty b_int gl_int fr_int RT.boot_int (ja_cons (je_ix (je_ix (je_v v0) je_int) (je_v v2)) ja_nil)) (je_v v1))))
  js_nil)
  (js_one (js_ret (je_op o_mod (je_bty b_int gl_int fr_int RT.boot_int (ja_cons (je_op o_addA (je_op o_mul (je_v v2) je_int) je_int) ja_nil)) (je_v v1)))))))
theorem g__law_draw (KX : K.In base) (GX : base.Ns mainGlobals mg) (c : He.SaysD fa fn K) (hxb : xb K = true) (hns : BaseOk K mg base) (htr : P.given.tree = none) : FnG P w K mg base "_law_draw" 1 PG.sp__law_draw_2 [] := by
  obtain ⟨fd, F⟩ := c.def_ 22 (d := dd__law_draw) rfl
  unfold PG.sp__law_draw_2
  exact mkG (N := (["_law_box_here", "_law_many", "_law_at"] : List Str)) false hns htr F (He.glo_ok KX GX (c.fact 22 (f := .glo "_law_draw") rfl)) sc__law_draw rfl rfl (fun _ _ _ _ _ _ us hl => match us, hl with | [_, _], _ => rfl) (fun X cdv A outer s H E hX hcd am => by subst hX; exact d__law_draw am sc__law_draw.nd rfl PassesOwn.never rfl rfl (fun _ => rfl) (He.free_ok KX GX (c.fact 57 (f := .free "len") rfl)) (He.free_ok KX GX (c.fact 59 (f := .free "int") rfl)))

theorem sc__law_same : FnScope (["_law_one", "_law_other"] : List Str) (["_law_one", "_law_other"] : List Str) (defScope s__law_same) := ⟨rfl, rfl, rfl, by decide +kernel, rfl, by decide +kernel, by decide +kernel⟩
theorem d__law_same {X : Cx} (am : Amb 0 X) (hN : X.N.Nodup) (hc : X.calm = true) (hxe : PassesOwn (model X.prog X.w) X.A X.env X.xe) (eN : X.N = (["_law_one", "_law_other"] : List Str)) (eS : X.env.scope = defScope s__law_same) (hfn : ∀ x, X.fn x = true) (fr_repr : X.mg "repr" = none) : JSs X (defBody s__law_same) PG.w__law_same := by
  have hr := am.rm
  have n0 : X.N[0]? = some ("_law_one" : Str) := by rw [eN]; rfl
  have v0 : SlotOk X 0 "_law_one" := slot_of eS eN hfn rfl (.inl rfl)
  have n1 : X.N[1]? = some ("_law_other" : Str) := by rw [eN]; rfl
  have v1 : SlotOk X 1 "_law_other" := slot_of eS eN hfn rfl (.inl rfl)
  have gl_repr : Gl X "repr" := gl_of eS rfl
  exact (js_one (js_ret (je_cmp o_eqT (je_bi (b_repr hr) gl_repr fr_repr RT.boot_repr (ja_cons (je_v v0) ja_nil)) (je_bi (b_repr hr) gl_repr fr_repr RT.boot_repr (ja_cons (je_v v1) ja_nil)) (nomark _))))
theorem g__law_same (KX : K.In base) (GX : base.Ns mainGlobals mg) (c : He.SaysD fa fn K) (hxb : xb K = true) (hns : BaseOk K mg base) (htr : P.given.tree = none) : FnG P w K mg base "_law_same" 1 PG.sp__law_same [] := by
  obtain ⟨fd, F⟩ := c.def_ 23 (d := dd__law_same) rfl
  unfold PG.sp__law_same
  exact mkG (N := (["_law_one", "_law_other"] : List Str)) false hns htr F (He.glo_ok KX GX (c.fact 23 (f := .glo "_law_same") rfl)) sc__law_same rfl rfl (fun _ _ _ _ _ _ us hl => match us, hl with | [_, _], _ => rfl) (fun X cdv A outer s H E hX hcd am => by subst hX; exact d__law_same am sc__law_same.nd rfl PassesOwn.never rfl rfl (fun _ => rfl) (He.free_ok KX GX (c.fact 60 (f := .free "repr") rfl)))

theorem sc__law_frac : FnScope (["_law_top", "_law_bottom", "_law_one", "_law_other"] : List Str) (["_law_top", "_law_bottom"] : List Str) (defScope s__law_frac) := ⟨rfl, rfl, rfl, by decide +kernel, rfl, by decide +kernel, by decide +kernel⟩
theorem d__law_frac {X : Cx} (am : Amb 0 X) (hN : X.N.Nodup) (hc : X.calm = true) (hxe : PassesOwn (model X.prog X.w) X.A X.env X.xe) (eN : X.N = (["_law_top", "_law_bottom", "_law_one", "_law_other"] : List Str)) (eS : X.env.scope = defScope s__law_frac) (hfn : ∀ x, X.fn x = true) (fr_abs : X.mg "abs" = none) (fr_int : X.mg "int" = none) : JSs X (defBody s__law_frac) PG.w__law_frac_2 := by
  have hr := am.rm
  have n0 : X.N[0]? = some ("_law_top" : Str) := by rw [eN]; rfl
  have v0 : SlotOk X 0 "_law_top" := slot_of eS eN hfn rfl (.inl rfl)
  have n1 : X.N[1]? = some ("_law_bottom" : Str) := by rw [eN]; rfl
  have v1 : SlotOk X 1 "_law_bottom" := slot_of eS eN hfn rfl (.inl rfl)
  have n2 : X.N[2]? = some ("_law_one" : Str) := by rw [eN]; rfl
  have v2 : SlotOk X 2 "_law_one" := slot_of eS eN hfn rfl (.inl rfl)
  have n3 : X.N[3]? = some ("_law_other" : Str) := by rw [eN]; rfl
  have v3 : SlotOk X 3 "_law_other" := slot_of eS eN hfn rfl (.inl rfl)
  have gl_abs : Gl X "abs" := gl_of eS rfl
  have gl_int : Gl X "int" := gl_of eS rfl
  exact (js_cons (js_st hN v2 (je_bi b_abs gl_abs fr_abs RT.boot_abs (ja_cons (je_v v0) ja_nil)))
  (js_cons (js_st hN v3 (je_bi b_abs gl_abs fr_abs RT.boot_abs (ja_cons (je_v v1) ja_nil)))
  (js_cons (js_while hxe (jt_cmp o_gt (je_v v3) je_int (nomark _))
  (js_one (js_par (i := 2) (j := 3) hc hN n2 n3 (by decide) (by rw [eS]; rfl) (by rw [eS]; rfl) (ja_cons (je_v v3) (ja_cons (je_op o_mod (je_bty b_int gl_int fr_int RT.boot_int (ja_cons (je_v v2) ja_nil)) (je_v v3)) ja_nil)) (swap_ok (by rw [eS]; rfl) (by rw [eS]; rfl) (by rw [eS]; rfl) (by decide) rfl rfl rfl (by decide +kernel) (by decide +kernel)))))
  (js_cons (js_if (jt_cmp o_lt (je_v v1) je_int (nomark _))
  (js_one (js_st hN v2 (je_neg (je_v v2))))
  js_nil)
  (js_one (js_ret (je_tup (ja_cons (je_op (o_fdiv am.py) (je_v v0) (je_v v2)) (ja_cons (je_op (o_fdiv am.py) (je_v v1) (je_v v2)) ja_nil)))))))))
theorem g__law_frac (KX : K.In base) (GX : base.Ns mainGlobals mg) (c : He.SaysD fa fn K) (hxb : xb K = true) (hns : BaseOk K mg base) (htr : P.given.tree = none) : FnG P w K mg base "_law_frac" 1 PG.sp__law_frac_2 [] := by
  obtain ⟨fd, F⟩ := c.def_ 24 (d := dd__law_frac) rfl
  unfold PG.sp__law_frac_2
  exact mkG (N := (["_law_top", "_law_bottom", "_law_one", "_law_other"] : List Str)) false hns htr F (He.glo_ok KX GX (c.fact 24 (f := .glo "_law_frac") rfl)) sc__law_frac rfl rfl (fun _ _ _ _ _ _ us hl => match us, hl with | [_, _], _ => rfl) (fun X cdv A outer s H E hX hcd am => by subst hX; exact d__law_frac am sc__law_frac.nd rfl PassesOwn.never rfl rfl (fun _ => rfl) (He.free_ok KX GX (c.fact 55 (f := .free "abs") rfl)) (He.free_ok KX GX (c.fact 59 (f := .free "int") rfl)))

theorem sc__law_add : FnScope (["_law_one", "_law_other"] : List Str) (["_law_one", "_law_other"] : List Str) (defScope s__law_add) := ⟨rfl, rfl, rfl, by decide +kernel, rfl, by decide +kernel, by decide +kernel⟩
theorem d__law_add {X : Cx} (am : Amb 1 X) (hN : X.N.Nodup) (hc : X.calm = true) (hxe : PassesOwn (model X.prog X.w) X.A X.env X.xe) (eN : X.N = (["_law_one", "_law_other"] : List Str)) (eS : X.env.scope = defScope s__law_add) (hfn : ∀ x, X.fn x = true) (G__law_frac : FnG X.prog X.w X.K X.mg X.base "_law_frac" 1 PG.sp__law_frac_2 []) : JSs X (defBody s__law_add) PG.w__law_add_3 := by
  have hr := am.rm
  have n0 : X.N[0]? = some ("_law_one" : Str) := by rw [eN]; rfl
  have v0 : SlotOk X 0 "_law_one" := slot_of eS eN hfn rfl (.inl rfl)
  have n1 : X.N[1]? = some ("_law_other" : Str) := by rw [eN]; rfl
  have v1 : SlotOk X 1 "_law_other" := slot_of eS eN hfn rfl (.inl rfl)
  have gl__law_frac : Gl X "_law_frac" := gl_of eS rfl
  exact (js_one (js_ret (je_cg G__law_frac hr gl__law_frac (ja_cons (je_op o_addA (je_op o_mul (je_ix (je_v v0) je_int) (je_ix (je_v v1) je_int)) (je_op o_mul (je_ix (je_v v1) je_int) (je_ix (je_v v0) je_int))) (ja_cons (je_op o_mul (je_ix (je_v v0) je_int) (je_ix (je_v v1) je_int)) ja_nil)))))
theorem g__law_add (KX : K.In base) (GX : base.Ns mainGlobals mg) (c : He.SaysD fa fn K) (hxb : xb K = true) (hns : BaseOk K mg base) (htr : P.given.tree = none) : FnG P w K mg base "_law_add" 2 PG.sp__law_add_3 [] := by
  obtain ⟨fd, F⟩ := c.def_ 25 (d := dd__law_add) rfl
  unfold PG.sp__law_add_3
  exact mkG (N := (["_law_one", "_law_other"] : List Str)) false hns htr F (He.glo_ok KX GX (c.fact 25 (f := .glo "_law_add") rfl)) sc__law_add rfl rfl (fun _ _ _ _ _ _ us hl => match us, hl with | [_, _], _ => rfl) (fun X cdv A outer s H E hX hcd am => by subst hX; exact d__law_add am sc__law_add.nd rfl PassesOwn.never rfl rfl (fun _ => rfl) (g__law_frac (P := P) (w := w) KX GX c hxb hns htr))

theorem sc__law_neg : FnScope (["_law_one"] : List Str) (["_law_one"] : List Str) (defScope s__law_neg) := ⟨rfl, rfl, rfl, by decide +kernel, rfl, by decide +kernel, by decide +kernel⟩
theorem d__law_neg {X : Cx} (am : Amb 0 X) (hN : X.N.Nodup) (hc : X.calm = true) (hxe : PassesOwn (model X.prog X.w) X.A X.env X.xe) (eN : X.N = (["_law_one"] : List Str)) (eS : X.env.scope = defScope s__law_neg) (hfn : ∀ x, X.fn x = true) : JSs X (defBody s__law_neg) PG.w__law_neg := by
  have hr := am.rm
  have n0 : X.N[0]? = some ("_law_one" : Str) := by rw [eN]; rfl
  have v0 : SlotOk X 0 "_law_one" := slot_of eS eN hfn rfl (.inl rfl)
  exact (js_one (js_ret (je_tup (ja_cons (je_neg (je_ix (je_v v0) je_int)) (ja_cons (je_ix (je_v v0) je_int) ja_nil)))))
theorem g__law_neg (KX : K.In base) (GX : base.Ns mainGlobals mg) (c : He.SaysD fa fn K) (hxb : xb K = true) (hns : BaseOk K mg base) (htr : P.given.tree = none) : FnG P w K mg base "_law_neg" 1 PG.sp__law_neg [] := by
  obtain ⟨fd, F⟩ := c.def_ 26 (d := dd__law_neg) rfl
  unfold PG.sp__law_neg
  exact mkG (N := (["_law_one"] : List Str)) false hns htr F (He.glo_ok KX GX (c.fact 26 (f := .glo "_law_neg") rfl)) sc__law_neg rfl rfl (fun _ _ _ _ _ _ us hl => match us, hl with | [_], _ => rfl) (fun X cdv A outer s H E hX hcd am => by subst hX; exact d__law_neg am sc__law_neg.nd rfl PassesOwn.never rfl rfl (fun _ => rfl))

theorem sc__law_sub : FnScope (["_law_one", "_law_other"] : List Str) (["_law_one", "_law_other"] : List Str) (defScope s__law_sub) := ⟨rfl, rfl, rfl, by decide +kernel, rfl, by decide +kernel, by decide +kernel⟩
theorem d__law_sub {X : Cx} (am : Amb 2 X) (hN : X.N.Nodup) (hc : X.calm = true) (hxe : PassesOwn (model X.prog X.w) X.A X.env X.xe) (eN : X.N = (["_law_one", "_law_other"] : List Str)) (eS : X.env.scope = defScope s__law_sub) (hfn : ∀ x, X.fn x = true) (G__law_neg : FnG X.prog X.w X.K X.mg X.base "_law_neg" 1 PG.sp__law_neg []) (G__law_add : FnG X.prog X.w X.K X.mg X.base "_law_add" 2 PG.sp__law_add_3 []) : JSs X (defBody s__law_sub) PG.w__law_sub_3 := by
  have hr := am.rm
  have n0 : X.N[0]? = some ("_law_one" : Str) := by rw [eN]; rfl
  have v0 : SlotOk X 0 "_law_one" := slot_of eS eN hfn rfl (.inl rfl)
  have n1 : X.N[1]? = some ("_law_other" : Str) := by rw [eN]; rfl
  have v1 : SlotOk X 1 "_law_other" := slot_of eS eN hfn rfl (.inl rfl)
  have gl__law_neg : Gl X "_law_neg" := gl_of eS rfl
  have gl__law_add : Gl X "_law_add" := gl_of eS rfl
  exact (js_one (js_ret (je_cg G__law_add hr gl__law_add (ja_cons (je_v v0) (ja_cons (je_cg G__law_neg hr gl__law_neg (ja_cons (je_v v1) ja_nil)) ja_nil)))))
theorem g__law_sub (KX : K.In base) (GX : base.Ns mainGlobals mg) (c : He.SaysD fa fn K) (hxb : xb K = true) (hns : BaseOk K mg base) (htr : P.given.tree = none) : FnG P w K mg base "_law_sub" 3 PG.sp__law_sub_3 [] := by
  obtain ⟨fd, F⟩ := c.def_ 27 (d := dd__law_sub) rfl
  unfold PG.sp__law_sub_3
  exact mkG (N := (["_law_one", "_law_other"] : List Str)) false hns htr F (He.glo_ok KX GX (c.fact 27 (f := .glo "_law_sub") rfl)) sc__law_sub rfl rfl (fun _ _ _ _ _ _ us hl => match us, hl with | [_, _], _ => rfl) (fun X cdv A outer s H E hX hcd am => by subst hX; exact d__law_sub am sc__law_sub.nd rfl PassesOwn.never rfl rfl (fun _ => rfl) (g__law_neg (P := P) (w := w) KX GX c hxb hns htr) (g__law_add (P := P) (w := w) KX GX c hxb hns htr))

theorem sc__law_mul : FnScope (["_law_one", "_law_other"] : List Str) (["_law_one", "_law_other"] : List Str) (defScope s__law_mul) := ⟨rfl, rfl, rfl, by decide +kernel, rfl, by decide +kernel, by decide +kernel⟩
theorem d__law_mul {X : Cx} (am : Amb 1 X) (hN : X.N.Nodup) (hc : X.calm = true) (hxe : PassesOwn (model X.prog X.w) X.A X.env X.xe) (eN : X.N = (["_law_one", "_law_other"] : List Str)) (eS : X.env.scope = defScope s__law_mul) (hfn : ∀ x, X.fn x = true) (G__law_frac : FnG X.prog X.w X.K X.mg X.base "_law_frac" 1 PG.sp__law_frac_2 []) : JSs X (defBody s__law_mul) PG.w__law_mul_3 := by
  have hr := am.rm
  have n0 : X.N[0]? = some ("_law_one" : Str) := by rw [eN]; rfl
  have v0 : SlotOk X 0 "_law_one" := slot_of eS eN hfn rfl (.inl rfl)
  have n1 : X.N[1]? = some ("_law_other" : Str) := by rw [eN]; rfl
  have v1 : SlotOk X 1 "_law_other" := slot_of eS eN hfn rfl (.inl rfl)
  have gl__law_frac : Gl X "_law_frac" := gl_of eS rfl
  exact (js_one (js_ret (je_cg G__law_frac hr gl__law_frac (ja_cons (je_op o_mul (je_ix (je_v v0) je_int) (je_ix (je_v v1) je_int)) (ja_cons (je_op o_mul (je_ix (je_v v0) je_int) (je_ix (je_v v1) je_int)) ja_nil)))))
theorem g__law_mul (KX : K.In base) (GX : base.Ns mainGlobals mg) (c : He.SaysD fa fn K) (hxb : xb K = true) (hns : BaseOk K mg base) (htr : P.given.tree = none) : FnG P w K mg base "_law_mul" 2 PG.sp__law_mul_3 [] := by
  obtain ⟨fd, F⟩ := c.def_ 28 (d := dd__law_mul) rfl
  unfold PG.sp__law_mul_3
  exact mkG (N := (["_law_one", "_law_other"] : List Str)) false hns htr F (He.glo_ok KX GX (c.fact 28 (f := .glo "_law_mul") rfl)) sc__law_mul rfl rfl (fun _ _ _ _ _ _ us hl => match us, hl with | [_, _], _ => rfl) (fun X cdv A outer s H E hX hcd am => by subst hX; exact d__law_mul am sc__law_mul.nd rfl PassesOwn.never rfl rfl (fun _ => rfl) (g__law_frac (P := P) (w := w) KX GX c hxb hns htr))

theorem sc__law_div : FnScope (["_law_one", "_law_other"] : List Str) (["_law_one", "_law_other"] : List Str) (defScope s__law_div) := ⟨rfl, rfl, rfl, by decide +kernel, rfl, by decide +kernel, by decide +kernel⟩
theorem d__law_div {X : Cx} (am : Amb 1 X) (hN : X.N.Nodup) (hc : X.calm = true) (hxe : PassesOwn (model X.prog X.w) X.A X.env X.xe) (eN : X.N = (["_law_one", "_law_other"] : List Str)) (eS : X.env.scope = defScope s__law_div) (hfn : ∀ x, X.fn x = true) (G__law_frac : FnG X.prog X.w X.K X.mg X.base "_law_frac" 1 PG.sp__law_frac_2 []) : JSs X (defBody s__law_div) PG.w__law_div_2 := by
  have hr := am.rm
  have n0 : X.N[0]? = some ("_law_one" : Str) := by rw [eN]; rfl
  have v0 : SlotOk X 0 "_law_one" := slot_of eS eN hfn rfl (.inl rfl)
  have n1 : X.N[1]? = some ("_law_other" : Str) := by rw [eN]; rfl
  have v1 : SlotOk X 1 "_law_other" := slot_of eS eN hfn rfl (.inl rfl)
  have gl__law_frac : Gl X "_law_frac" := gl_of eS rfl
  exact (js_one (js_ret (je_cg G__law_frac hr gl__law_frac (ja_cons (je_op o_mul (je_ix (je_v v0) je_int) (je_ix (je_v v1) je_int)) (ja_cons (je_op o_mul (je_ix (je_v v0) je_int) (je_ix (je_v v1) je_int)) ja_nil)))))
theorem g__law_div (KX : K.In base) (GX : base.Ns mainGlobals mg) (c : He.SaysD fa fn K) (hxb : xb K = true) (hns : BaseOk K mg base) (htr : P.given.tree = none) : FnG P w K mg base "_law_div" 2 PG.sp__law_div_2 [] := by
  obtain ⟨fd, F⟩ := c.def_ 29 (d := dd__law_div) rfl
  unfold PG.sp__law_div_2
  exact mkG (N := (["_law_one", "_law_other"] : List Str)) false hns htr F (He.glo_ok KX GX (c.fact 29 (f := .glo "_law_div") rfl)) sc__law_div rfl rfl (fun _ _ _ _ _ _ us hl => match us, hl with | [_, _], _ => rfl) (fun X cdv A outer s H E hX hcd am => by subst hX; exact d__law_div am sc__law_div.nd rfl PassesOwn.never rfl rfl (fun _ => rfl) (g__law_frac (P := P) (w := w) KX GX c hxb hns htr))

theorem sc__law_less : FnScope (["_law_one", "_law_other"] : List Str) (["_law_one", "_law_other"] : List Str) (defScope s__law_less) := ⟨rfl, rfl, rfl, by decide +kernel, rfl, by decide +kernel, by decide +kernel⟩
theorem d__law_less {X : Cx} (am : Amb 0 X) (hN : X.N.Nodup) (hc : X.calm = true) (hxe : PassesOwn (model X.prog X.w) X.A X.env X.xe) (eN : X.N = (["_law_one", "_law_other"] : List Str)) (eS : X.env.scope = defScope s__law_less) (hfn : ∀ x, X.fn x = true) : JSs X (defBody s__law_less) PG.w__law_less := by
  have hr := am.rm
  have n0 : X.N[0]? = some ("_law_one" : Str) := by rw [eN]; rfl
  have v0 : SlotOk X 0 "_law_one" := slot_of eS eN hfn rfl (.inl rfl)
  have n1 : X.N[1]? = some ("_law_other" : Str) := by rw [eN]; rfl
  have v1 : SlotOk X 1 "_law_other" := slot_of eS eN hfn rfl (.inl rfl)
  exact (js_one (js_ret (je_cmp o_lt (je_op o_mul (je_ix (je_v v0) je_int) (je_ix (je_v v1) je_int)) (je_op o_mul (je_ix (je_v v1) je_int) (je_ix (je_v v0) je_int)) (nomark _))))
theorem g__law_less (KX : K.In base) (GX : base.Ns mainGlobals mg) (c : He.SaysD fa fn K) (hxb : xb K = true) (hns : BaseOk K mg base) (htr : P.given.tree = none) : FnG P w K mg base "_law_less" 1 PG.sp__law_less [] := by
  obtain ⟨fd, F⟩ := c.def_ 30 (d := dd__law_less) rfl
  unfold PG.sp__law_less
  exact mkG (N := (["_law_one", "_law_other"] : List Str)) false hns htr F (He.glo_ok KX GX (c.fact 30 (f := .glo "_law_less") rfl)) sc__law_less rfl rfl (fun _ _ _ _ _ _ us hl => match us, hl with | [_, _], _ => rfl) (fun X cdv A outer s H E hX hcd am => by subst hX; exact d__law_less am sc__law_less.nd rfl PassesOwn.never rfl rfl (fun _ => rfl))

theorem sc__law_least : FnScope (["_law_values", "_law_best", "_law_value"] : List Str) (["_law_values"] : List Str) (defScope s__law_least) := ⟨rfl, rfl, rfl, by decide +kernel, rfl, by decide +kernel, by decide +kernel⟩
theorem d__law_least {X : Cx} (am : Amb 1 X) (hN : X.N.Nodup) (hc : X.calm = true) (hxe : PassesOwn (model X.prog X.w) X.A X.env X.xe) (eN : X.N = (["_law_values", "_law_best", "_law_value"] : List Str)) (eS : X.env.scope = defScope s__law_least) (hfn : ∀ x, X.fn x = true) (G__law_less : FnG X.prog X.w X.K X.mg X.base "_law_less" 1 PG.sp__law_less []) : JSs X (defBody s__law_least) PG.w__law_least_3 := by
  have hr := am.rm
  have n0 : X.N[0]? = some ("_law_values" : Str) := by rw [eN]; rfl
  have v0 : SlotOk X 0 "_law_values" := slot_of eS eN hfn rfl (.inl rfl)
  have n1 : X.N[1]? = some ("_law_best" : Str) := by rw [eN]; rfl
  have v1 : SlotOk X 1 "_law_best" := slot_of eS eN hfn rfl (.inl rfl)
  have n2 : X.N[2]? = some ("_law_value" : Str) := by rw [eN]; rfl
  have v2 : SlotOk X 2 "_law_value" := slot_of eS eN hfn rfl (.inl rfl)
  have gl__law_less : Gl X "_law_less" := gl_of eS rfl
  exact (js_cons (js_st hN v1 je_non)
  (js_cons (js_for hxe hc (ji_any (je_v v0)) (jg_of (pg_v hN v2))
  (js_one (js_if (jw_pt (jw_or (jt_isN (je_v v1)) (jw_or1 (jt_tru (je_cg G__law_less hr gl__law_less (ja_cons (je_v v2) (ja_cons (je_v v1) ja_nil)))))))
  (js_one (js_st hN v1 (je_v v2)))
  js_nil)))
  (js_one (js_ret (je_v v1)))))
theorem g__law_least (KX : K.In base) (GX : base.Ns mainGlobals mg) (c : He.SaysD fa fn K) (hxb : xb K = true) (hns : BaseOk K mg base) (htr : P.given.tree = none) : FnG P w K mg base "_law_least" 2 PG.sp__law_least_3 [] := by
  obtain ⟨fd, F⟩ := c.def_ 31 (d := dd__law_least) rfl
  unfold PG.sp__law_least_3
  exact mkG (N := (["_law_values", "_law_best", "_law_value"] : List Str)) false hns htr F (He.glo_ok KX GX (c.fact 31 (f := .glo "_law_least") rfl)) sc__law_least rfl rfl (fun _ _ _ _ _ _ us hl => match us, hl with | [_], _ => rfl) (fun X cdv A outer s H E hX hcd am => by subst hX; exact d__law_least am sc__law_least.nd rfl PassesOwn.never rfl rfl (fun _ => rfl) (g__law_less (P := P) (w := w) KX GX c hxb hns htr))

theorem sc__law_greatest : FnScope (["_law_values", "_law_best", "_law_value"] : List Str) (["_law_values"] : List Str) (defScope s__law_greatest) := ⟨rfl, rfl, rfl, by decide +kernel, rfl, by decide +kernel, by decide +kernel⟩
theorem d__law_greatest {X : Cx} (am : Amb 1 X) (hN : X.N.Nodup) (hc : X.calm = true) (hxe : PassesOwn (model X.prog X.w) X.A X.env X.xe) (eN : X.N = (["_law_values", "_law_best", "_law_value"] : List Str)) (eS : X.env.scope = defScope s__law_greatest) (hfn : ∀ x, X.fn x = true) (G__law_less : FnG X.prog X.w X.K X.mg X.base "_law_less" 1 PG.sp__law_less []) : JSs X (defBody s__law_greatest) PG.w__law_greatest := by
  have hr := am.rm
  have n0 : X.N[0]? = some ("_law_values" : Str) := by rw [eN]; rfl
  have v0 : SlotOk X 0 "_law_values" := slot_of eS eN hfn rfl (.inl rfl)
  have n1 : X.N[1]? = some ("_law_best" : Str) := by rw [eN]; rfl
  have v1 : SlotOk X 1 "_law_best" := slot_of eS eN hfn rfl (.inl rfl)
  have n2 : X.N[2]? = some ("_law_value" : Str) := by rw [eN]; rfl
  have v2 : SlotOk X 2 "_law_value" := slot_of eS eN hfn rfl (.inl rfl)
  have gl__law_less : Gl X "_law_less" := gl_of eS rfl
  exact (js_cons (js_st hN v1 je_non)
  (js_cons (js_for hxe hc (ji_any (je_v v0)) (jg_of (pg_v hN v2))
  (js_one (js_if (jw_pt (jw_or (jt_isN (je_v v1)) (jw_or1 (jt_tru (je_cg G__law_less hr gl__law_less (ja_cons (je_v v1) (ja_cons (je_v v2) ja_nil)))))))
  (js_one (js_st hN v1 (je_v v2)))
  js_nil)))
  (js_one (js_ret (je_v v1)))))
theorem g__law_greatest (KX : K.In base) (GX : base.Ns mainGlobals mg) (c : He.SaysD fa fn K) (hxb : xb K = true) (hns : BaseOk K mg base) (htr : P.given.tree = none) : FnG P w K mg base "_law_greatest" 2 PG.sp__law_greatest [] := by
  obtain ⟨fd, F⟩ := c.def_ 32 (d := dd__law_greatest) rfl
  unfold PG.sp__law_greatest
  exact mkG (N := (["_law_values", "_law_best", "_law_value"] : List Str)) false hns htr F (He.glo_ok KX GX (c.fact 32 (f := .glo "_law_greatest") rfl)) sc__law_greatest rfl rfl (fun _ _ _ _ _ _ us hl => match us, hl with | [_], _ => rfl) (fun X cdv A outer s H E hX hcd am => by subst hX; exact d__law_greatest am sc__law_greatest.nd rfl PassesOwn.never rfl rfl (fun _ => rfl) (g__law_less (P := P) (w := w) KX GX c hxb hns htr))

theorem sc__law_fraction : FnScope (["_law_box_here"] : List Str) (["_law_box_here"] : List Str) (defScope s__law_fraction) := ⟨rfl, rfl, rfl, by decide +kernel, rfl, by decide +kernel, by decide +kernel⟩
theorem d__law_fraction {X : Cx} (am : Amb 1 X) (hN : X.N.Nodup) (hc : X.calm = true) (hxe : PassesOwn (model X.prog X.w) X.A X.env X.xe) (eN : X.N = (["_law_box_here"] : List Str)) (eS : X.env.scope = defScope s__law_fraction) (hfn : ∀ x, X.fn x = true) (G__law_draw : FnG X.prog X.w X.K X.mg X.base "_law_draw" 1 PG.sp__law_draw_2 []) (G__law_frac : FnG X.prog X.w X.K X.mg X.base "_law_frac" 1 PG.sp__law_frac_2 []) : JSs X (defBody s__law_fraction) PG.w__law_fraction_2 := by
  have hr := am.rm
  have n0 : X.N[0]? = some ("_law_box_here" : Str) := by rw [eN]; rfl
  have v0 : SlotOk X 0 "_law_box_here" := slot_of eS eN hfn rfl (.inl rfl)
  have gl__law_draw : Gl X "_law_draw" := gl_of eS rfl
  have gl__law_frac : Gl X "_law_frac" := gl_of eS rfl
  exact (js_one (js_ret (je_cg G__law_frac hr gl__law_frac (ja_cons (je_op o_sub (je_cg G__law_draw hr gl__law_draw (ja_cons (je_v v0) (ja_cons je_int ja_nil))) je_int) (ja_cons (je_ix (je_lst (ja_cons je_int (ja_cons je_int (ja_cons je_int (ja_cons je_int ja_nil))))) (je_cg G__law_draw hr gl__law_draw (ja_cons (je_v v0) (ja_cons je_int ja_nil)))) ja_nil)))))
theorem g__law_fraction (KX : K.In base) (GX : base.Ns mainGlobals mg) (c : He.SaysD fa fn K) (hxb : xb K = true) (hns : BaseOk K mg base) (htr : P.given.tree = none) : FnG P w K mg base "_law_fraction" 2 PG.sp__law_fraction_2 [] := by
  obtain ⟨fd, F⟩ := c.def_ 33 (d := dd__law_fraction) rfl
  unfold PG.sp__law_fraction_2
  exact mkG (N := (["_law_box_here"] : List Str)) false hns htr F (He.glo_ok KX GX (c.fact 33 (f := .glo "_law_fraction") rfl)) sc__law_fraction rfl rfl (fun _ _ _ _ _ _ us hl => match us, hl with | [_], _ => rfl) (fun X cdv A outer s H E hX hcd am => by subst hX; exact d__law_fraction am sc__law_fraction.nd rfl PassesOwn.never rfl rfl (fun _ => rfl) (g__law_draw (P := P) (w := w) KX GX c hxb hns htr) (g__law_frac (P := P) (w := w) KX GX c hxb hns htr))

theorem sc__law_nonzero : FnScope (["_law_box_here", "_law_value"] : List Str) (["_law_box_here"] : List Str) (defScope s__law_nonzero) := ⟨rfl, rfl, rfl, by decide +kernel, rfl, by decide +kernel, by decide +kernel⟩
theorem d__law_nonzero {X : Cx} (am : Amb 2 X) (hN : X.N.Nodup) (hc : X.calm = true) (hxe : PassesOwn (model X.prog X.w) X.A X.env X.xe) (eN : X.N = (["_law_box_here", "_law_value"] : List Str)) (eS : X.env.scope = defScope s__law_nonzero) (hfn : ∀ x, X.fn x = true) (G__law_fraction : FnG X.prog X.w X.K X.mg X.base "_law_fraction" 2 PG.sp__law_fraction_2 []) : JSs X (defBody s__law_nonzero) PG.w__law_nonzero_2 := by
  have hr := am.rm
  have n0 : X.N[0]? = some ("_law_box_here" : Str) := by rw [eN]; rfl
  have v0 : SlotOk X 0 "_law_box_here" := slot_of eS eN hfn rfl (.inl rfl)
  have n1 : X.N[1]? = some ("_law_value" : Str) := by rw [eN]; rfl
  have v1 : SlotOk X 1 "_law_value" := slot_of eS eN hfn rfl (.inl rfl)
  have gl__law_fraction : Gl X "_law_fraction" := gl_of eS rfl
  exact (js_cons (js_st hN v1 (je_cg G__law_fraction hr gl__law_fraction (ja_cons (je_v v0) ja_nil)))
  (js_cons (js_if (jt_cmp (o_eq hr) (je_ix (je_v v1) je_int) je_int (nomark _))
  (js_one (js_ret (je_tup (ja_cons je_int (ja_cons je_int ja_nil)))))
  js_nil)
  (js_one (js_ret (je_v v1)))))
theorem g__law_nonzero (KX : K.In base) (GX : base.Ns mainGlobals mg) (c : He.SaysD fa fn K) (hxb : xb K = true) (hns : BaseOk K mg base) (htr : P.given.tree = none) : FnG P w K mg base "_law_nonzero" 3 PG.sp__law_nonzero_2 [] := by
  obtain ⟨fd, F⟩ := c.def_ 34 (d := dd__law_nonzero) rfl
  unfold PG.sp__law_nonzero_2
  exact mkG (N := (["_law_box_here", "_law_value"] : List Str)) false hns htr F (He.glo_ok KX GX (c.fact 34 (f := .glo "_law_nonzero") rfl)) sc__law_nonzero rfl rfl (fun _ _ _ _ _ _ us hl => match us, hl with | [_], _ => rfl) (fun X cdv A outer s H E hX hcd am => by subst hX; exact d__law_nonzero am sc__law_nonzero.nd rfl PassesOwn.never rfl rfl (fun _ => rfl) (g__law_fraction (P := P) (w := w) KX GX c hxb hns htr))

theorem sc__law_stop : FnScope (["_law_box_here", "_law_lower", "_law_upper", "_law_kind"] : List Str) (["_law_box_here"] : List Str) (defScope s__law_stop) := ⟨rfl, rfl, rfl, by decide +kernel, rfl, by decide +kernel, by decide +kernel⟩
theorem d__law_stop {X : Cx} (am : Amb 2 X) (hN : X.N.Nodup) (hc : X.calm = true) (hxe : PassesOwn (model X.prog X.w) X.A X.env X.xe) (eN : X.N = (["_law_box_here", "_law_lower", "_law_upper", "_law_kind"] : List Str)) (eS : X.env.scope = defScope s__law_stop) (hfn : ∀ x, X.fn x = true) (G__law_fraction : FnG X.prog X.w X.K X.mg X.base "_law_fraction" 2 PG.sp__law_fraction_2 []) (G__law_draw : FnG X.prog X.w X.K X.mg X.base "_law_draw" 1 PG.sp__law_draw_2 []) (G__law_frac : FnG X.prog X.w X.K X.mg X.base "_law_frac" 1 PG.sp__law_frac_2 []) (G__law_add : FnG X.prog X.w X.K X.mg X.base "_law_add" 2 PG.sp__law_add_3 []) : JSs X (defBody s__law_stop) PG.w__law_stop_3 := by
  have hr := am.rm
  have n0 : X.N[0]? = some ("_law_box_here" : Str) := by rw [eN]; rfl
  have v0 : SlotOk X 0 "_law_box_here" := slot_of eS eN hfn rfl (.inl rfl)
  have n1 : X.N[1]? = some ("_law_lower" : Str) := by rw [eN]; rfl
  have v1 : SlotOk X 1 "_law_lower" := slot_of eS eN hfn rfl (.inl rfl)
  have n2 : X.N[2]? = some ("_law_upper" : Str) := by rw [eN]; rfl
  have v2 : SlotOk X 2 "_law_upper" := slot_of eS eN hfn rfl (.inl rfl)
  have n3 : X.N[3]? = some ("_law_kind" : Str) := by rw [eN]; rfl
  have v3 : SlotOk X 3 "_law_kind" := slot_of eS eN hfn rfl (.inl rfl)
  have gl__law_fraction : Gl X "_law_fraction" := gl_of eS rfl
  have gl__law_draw : Gl X "_law_draw" := gl_of eS rfl
  have gl__law_frac : Gl X "_law_frac" := gl_of eS rfl
  have gl__law_add : Gl X "_law_add" := gl_of eS rfl
  exact (js_cons (js_st hN v1 (je_cg G__law_fraction hr gl__law_fraction (ja_cons (je_v v0) ja_nil)))
  (js_cons (js_st hN v2 (je_cg G__law_add hr gl__law_add (ja_cons (je_v v1) (ja_cons (je_cg G__law_frac hr gl__law_frac (ja_cons (je_cg G__law_draw hr gl__law_draw (ja_cons (je_v v0) (ja_cons je_int ja_nil))) (ja_cons je_int ja_nil))) ja_nil))))
  (js_cons (js_st hN v3 (je_cg G__law_draw hr gl__law_draw (ja_cons (je_v v0) (ja_cons je_int ja_nil))))
  (js_cons (js_if (jt_cmp (o_eq hr) (je_v v3) je_int (nomark _))
  (js_one (js_ret (je_tup (ja_cons je_str (ja_cons je_non (ja_cons (je_v v2) ja_nil))))))
  js_nil)
  (js_cons (js_if (jt_cmp (o_eq hr) (je_v v3) je_int (nomark _))
  (js_one (js_ret (je_tup (ja_cons je_str (ja_cons (je_v v1) (ja_cons je_non ja_nil))))))
  js_nil)
  (js_one (js_ret (je_tup (ja_cons je_str (ja_cons (je_v v1) (ja_cons (je_v v2) ja_nil)))))))))))
theorem g__law_stop (KX : K.In base) (GX : base.Ns mainGlobals mg) (c : He.SaysD fa fn K) (hxb : xb K = true) (hns : BaseOk K mg base) (htr : P.given.tree = none) : FnG P w K mg base "_law_stop" 3 PG.sp__law_stop_3 [] := by
  obtain ⟨fd, F⟩ := c.def_ 35 (d := dd__law_stop) rfl
  unfold PG.sp__law_stop_3
  exact mkG (N := (["_law_box_here", "_law_lower", "_law_upper", "_law_kind"] : List Str)) false hns htr F (He.glo_ok KX GX (c.fact 35 (f := .glo "_law_stop") rfl)) sc__law_stop rfl rfl (fun _ _ _ _ _ _ us hl => match us, hl with | [_], _ => rfl) (fun X cdv A outer s H E hX hcd am => by subst hX; exact d__law_stop am sc__law_stop.nd rfl PassesOwn.never rfl rfl (fun _ => rfl) (g__law_fraction (P := P) (w := w) KX GX c hxb hns htr) (g__law_draw (P := P) (w := w) KX GX c hxb hns htr) (g__law_frac (P := P) (w := w) KX GX c hxb hns htr) (g__law_add (P := P) (w := w) KX GX c hxb hns htr))

theorem sc__law_element : FnScope (["_law_box_here", "_law_kind"] : List Str) (["_law_box_here"] : List Str) (defScope s__law_element) := ⟨rfl, rfl, rfl, by decide +kernel, rfl, by decide +kernel, by decide +kernel⟩
theorem d__law_element {X : Cx} (am : Amb 3 X) (hN : X.N.Nodup) (hc : X.calm = true) (hxe : PassesOwn (model X.prog X.w) X.A X.env X.xe) (eN : X.N = (["_law_box_here", "_law_kind"] : List Str)) (eS : X.env.scope = defScope s__law_element) (hfn : ∀ x, X.fn x = true) (G__law_draw : FnG X.prog X.w X.K X.mg X.base "_law_draw" 1 PG.sp__law_draw_2 []) (G__law_fraction : FnG X.prog X.w X.K X.mg X.base "_law_fraction" 2 PG.sp__law_fraction_2 []) (G__law_nonzero : FnG X.prog X.w X.K X.mg X.base "_law_nonzero" 3 PG.sp__law_nonzero_2 []) (G__law_stop : FnG X.prog X.w X.K X.mg X.base "_law_stop" 3 PG.sp__law_stop_3 []) : JSs X (defBody s__law_element) PG.w__law_element_3 := by
  have hr := am.rm
  have n0 : X.N[0]? = some ("_law_box_here" : Str) := by rw [eN]; rfl
  have v0 : SlotOk X 0 "_law_box_here" := slot_of eS eN hfn rfl (.inl rfl)
  have n1 : X.N[1]? = some ("_law_kind" : Str) := by rw [eN]; rfl
  have v1 : SlotOk X 1 "_law_kind" := slot_of eS eN hfn rfl (.inl rfl)
  have gl__law_draw : Gl X "_law_draw" := gl_of eS rfl
  have gl__law_fraction : Gl X "_law_fraction" := gl_of eS rfl
  have gl__law_nonzero : Gl X "_law_nonzero" := gl_of eS rfl
  have gl__law_stop : Gl X "_law_stop" := gl_of eS rfl
  exact (js_cons (js_st hN v1 (je_cg G__law_draw hr gl__law_draw (ja_cons (je_v v0) (ja_cons je_int ja_nil))))
  (js_cons (js_if (jt_cmp o_lt (je_v v1) je_int (nomark _))
  (js_one (js_ret (je_tup (ja_cons je_str (ja_cons (je_cg G__law_fraction hr gl__law_fraction (ja_cons (je_v v0) ja_nil)) ja_nil)))))
  js_nil)
  (js_cons (js_if (jt_cmp o_lt (je_v v1) je_int (nomark _))
  (js_one (js_ret (je_tup (ja_cons je_str (ja_cons (je_cg G__law_fraction hr gl__law_fraction (ja_cons (je_v v0) ja_nil)) (ja_cons (je_ix (je_lst (ja_cons (je_tup (ja_cons je_int (ja_cons je_int ja_nil))) (ja_cons (je_cg G__law_fraction hr gl__law_fraction (ja_cons (je_v v0) ja_nil)) ja_nil))) (je_cg G__law_draw hr gl__law_draw (ja_cons (je_v v0) (ja_cons je_int ja_nil)))) ja_nil))))))
  js_nil)
  (js_cons (js_if (jt_cmp (o_eq hr) (je_v v1) je_int (nomark _))
  (js_one (js_ret (je_tup (ja_cons je_str (ja_cons (je_cg G__law_fraction hr gl__law_fraction (ja_cons (je_v v0) ja_nil)) ja_nil)))))
  js_nil)
  (js_cons (js_if (jt_cmp (o_eq hr) (je_v v1) je_int (nomark _))
  (js_one (js_ret (je_tup (ja_cons je_str (ja_cons (je_cg G__law_nonzero hr gl__law_nonzero (ja_cons (je_v v0) ja_nil)) ja_nil)))))
  js_nil)
  (js_one (js_ret (je_cg G__law_stop hr gl__law_stop (ja_cons (je_v v0) ja_nil)))))))))
theorem g__law_element (KX : K.In base) (GX : base.Ns mainGlobals mg) (c : He.SaysD fa fn K) (hxb : xb K = true) (hns : BaseOk K mg base) (htr : P.given.tree = none) : FnG P w K mg base "_law_element" 4 PG.sp__law_element_3 [] := by
  obtain ⟨fd, F⟩ := c.def_ 36 (d := dd__law_element) rfl
  unfold PG.sp__law_element_3
  exact mkG (N := (["_law_box_here", "_law_kind"] : List Str)) false hns htr F (He.glo_ok KX GX (c.fact 36 (f := .glo "_law_element") rfl)) sc__law_element rfl rfl (fun _ _ _ _ _ _ us hl => match us, hl with | [_], _ => rfl) (fun X cdv A outer s H E hX hcd am => by subst hX; exact d__law_element am sc__law_element.nd rfl PassesOwn.never rfl rfl (fun _ => rfl) (g__law_draw (P := P) (w := w) KX GX c hxb hns htr) (g__law_fraction (P := P) (w := w) KX GX c hxb hns htr) (g__law_nonzero (P := P) (w := w) KX GX c hxb hns htr) (g__law_stop (P := P) (w := w) KX GX c hxb hns htr))

theorem sc__law_train : FnScope (["_law_box_here", "_law_most", "_law_turn"] : List Str) (["_law_box_here", "_law_most"] : List Str) (defScope s__law_train) := ⟨rfl, rfl, rfl, by decide +kernel, rfl, by decide +kernel, by decide +kernel⟩
theorem d__law_train {X : Cx} (am : Amb 4 X) (hN : X.N.Nodup) (hc : X.calm = true) (hxe : PassesOwn (model X.prog X.w) X.A X.env X.xe) (eN : X.N = (["_law_box_here", "_law_most", "_law_turn"] : List Str)) (eS : X.env.scope = defScope s__law_train) (hfn : ∀ x, X.fn x = true) (fr_range : X.mg "range" = none) (G__law_draw : FnG X.prog X.w X.K X.mg X.base "_law_draw" 1 PG.sp__law_draw_2 []) (G__law_element : FnG X.prog X.w X.K X.mg X.base "_law_element" 4 PG.sp__law_element_3 []) : JSs X (defBody s__law_train) PG.w__law_train_3 := by
  have hr := am.rm
  have n0 : X.N[0]? = some ("_law_box_here" : Str) := by rw [eN]; rfl
  have v0 : SlotOk X 0 "_law_box_here" := slot_of eS eN hfn rfl (.inr rfl)
  have n1 : X.N[1]? = some ("_law_most" : Str) := by rw [eN]; rfl
  have v1 : SlotOk X 1 "_law_most" := slot_of eS eN hfn rfl (.inl rfl)
  have n2 : X.N[2]? = some ("_law_turn" : Str) := by rw [eN]; rfl
  have gl_range : Gl X "range" := gl_of eS rfl
  have gl__law_draw : Gl X "_law_draw" := gl_of eS rfl
  exact (js_one (js_ret (je_lc false (own' := [("_law_turn", 2)]) (by decide) hc hN (ji_range1 gl_range fr_range (ja_cons (je_cg G__law_draw hr gl__law_draw (ja_cons (je_v v0) (ja_cons (je_op o_addA (je_v v1) je_int) ja_nil))) ja_nil)) (blk_of eN eS (own := [("_law_turn", 2)]) (by decide +kernel)) (fun s H C cl fp => (jg_of (pg_name (i := 2) hN n2 (by first | exact .inl rfl | exact .inr rfl)))) (fun s H C cl fp => jts_nil) (fun s H C cl fp => (je_cg G__law_element hr (by rfl) (ja_cons (je_var 0 n0 (hv := vis_free (by decide +kernel))) ja_nil))))))
theorem g__law_train (KX : K.In base) (GX : base.Ns mainGlobals mg) (c : He.SaysD fa fn K) (hxb : xb K = true) (hns : BaseOk K mg base) (htr : P.given.tree = none) : FnG P w K mg base "_law_train" 5 PG.sp__law_train_3 [] := by
  obtain ⟨fd, F⟩ := c.def_ 37 (d := dd__law_train) rfl
  unfold PG.sp__law_train_3
  exact mkG (N := (["_law_box_here", "_law_most", "_law_turn"] : List Str)) false hns htr F (He.glo_ok KX GX (c.fact 37 (f := .glo "_law_train") rfl)) sc__law_train rfl rfl (fun _ _ _ _ _ _ us hl => match us, hl with | [_, _], _ => rfl) (fun X cdv A outer s H E hX hcd am => by subst hX; exact d__law_train am sc__law_train.nd rfl PassesOwn.never rfl rfl (fun _ => rfl) (He.free_ok KX GX (c.fact 58 (f := .free "range") rfl)) (g__law_draw (P := P) (w := w) KX GX c hxb hns htr) (g__law_element (P := P) (w := w) KX GX c hxb hns htr))

theorem sc__law_ray : FnScope (["_law_box_here"] : List Str) (["_law_box_here"] : List Str) (defScope s__law_ray) := ⟨rfl, rfl, rfl, by decide +kernel, rfl, by decide +kernel, by decide +kernel⟩
theorem d__law_ray {X : Cx} (am : Amb 2 X) (hN : X.N.Nodup) (hc : X.calm = true) (hxe : PassesOwn (model X.prog X.w) X.A X.env X.xe) (eN : X.N = (["_law_box_here"] : List Str)) (eS : X.env.scope = defScope s__law_ray) (hfn : ∀ x, X.fn x = true) (G__law_fraction : FnG X.prog X.w X.K X.mg X.base "_law_fraction" 2 PG.sp__law_fraction_2 []) : JSs X (defBody s__law_ray) PG.w__law_ray_2 := by
  have hr := am.rm
  have n0 : X.N[0]? = some ("_law_box_here" : Str) := by rw [eN]; rfl
  have v0 : SlotOk X 0 "_law_box_here" := slot_of eS eN hfn rfl (.inl rfl)
  have gl__law_fraction : Gl X "_law_fraction" := gl_of eS rfl
  exact (js_one (js_ret (je_tup (ja_cons (je_cg G__law_fraction hr gl__law_fraction (ja_cons (je_v v0) ja_nil)) (ja_cons (je_cg G__law_fraction hr gl__law_fraction (ja_cons (je_v v0) ja_nil)) ja_nil)))))
theorem g__law_ray (KX : K.In base) (GX : base.Ns mainGlobals mg) (c : He.SaysD fa fn K) (hxb : xb K = true) (hns : BaseOk K mg base) (htr : P.given.tree = none) : FnG P w K mg base "_law_ray" 3 PG.sp__law_ray_2 [] := by
  obtain ⟨fd, F⟩ := c.def_ 38 (d := dd__law_ray) rfl
  unfold PG.sp__law_ray_2
  exact mkG (N := (["_law_box_here"] : List Str)) false hns htr F (He.glo_ok KX GX (c.fact 38 (f := .glo "_law_ray") rfl)) sc__law_ray rfl rfl (fun _ _ _ _ _ _ us hl => match us, hl with | [_], _ => rfl) (fun X cdv A outer s H E hX hcd am => by subst hX; exact d__law_ray am sc__law_ray.nd rfl PassesOwn.never rfl rfl (fun _ => rfl) (g__law_fraction (P := P) (w := w) KX GX c hxb hns htr))

theorem sc__law_go : FnScope (["_law_element_here", "_law_ray_here", "_law_height", "_law_slope"] : List Str) (["_law_element_here", "_law_ray_here"] : List Str) (defScope s__law_go) := ⟨rfl, rfl, rfl, by decide +kernel, rfl, by decide +kernel, by decide +kernel⟩
theorem d__law_go {X : Cx} (am : Amb 3 X) (hN : X.N.Nodup) (hc : X.calm = true) (hxe : PassesOwn (model X.prog X.w) X.A X.env X.xe) (eN : X.N = (["_law_element_here", "_law_ray_here", "_law_height", "_law_slope"] : List Str)) (eS : X.env.scope = defScope s__law_go) (hfn : ∀ x, X.fn x = true) (G__law_mul : FnG X.prog X.w X.K X.mg X.base "_law_mul" 2 PG.sp__law_mul_3 []) (G__law_add : FnG X.prog X.w X.K X.mg X.base "_law_add" 2 PG.sp__law_add_3 []) (G__law_sub : FnG X.prog X.w X.K X.mg X.base "_law_sub" 3 PG.sp__law_sub_3 []) (G__law_div : FnG X.prog X.w X.K X.mg X.base "_law_div" 2 PG.sp__law_div_2 []) : JSs X (defBody s__law_go) PG.w__law_go_3 := by
  have hr := am.rm
  have n0 : X.N[0]? = some ("_law_element_here" : Str) := by rw [eN]; rfl
  have v0 : SlotOk X 0 "_law_element_here" := slot_of eS eN hfn rfl (.inl rfl)
  have n1 : X.N[1]? = some ("_law_ray_here" : Str) := by rw [eN]; rfl
  have v1 : SlotOk X 1 "_law_ray_here" := slot_of eS eN hfn rfl (.inl rfl)
  have n2 : X.N[2]? = some ("_law_height" : Str) := by rw [eN]; rfl
  have v2 : SlotOk X 2 "_law_height" := slot_of eS eN hfn rfl (.inl rfl)
  have n3 : X.N[3]? = some ("_law_slope" : Str) := by rw [eN]; rfl
  have v3 : SlotOk X 3 "_law_slope" := slot_of eS eN hfn rfl (.inl rfl)
  have gl__law_mul : Gl X "_law_mul" := gl_of eS rfl
  have gl__law_add : Gl X "_law_add" := gl_of eS rfl
  have gl__law_sub : Gl X "_law_sub" := gl_of eS rfl
  have gl__law_div : Gl X "_law_div" := gl_of eS rfl
  exact (js_cons (js_asg (je_v v1) (jg_of (pg_tup hc (pgs_cons (pg_v hN v2) (pgs_cons (pg_v hN v3) pgs_nil)))))
  (js_cons (js_if (jt_cmp (o_eq hr) (je_ix (je_v v0) je_int) je_str (nomark _))
  (js_one (js_ret (je_tup (ja_cons (je_cg G__law_add hr gl__law_add (ja_cons (je_v v2) (ja_cons (je_cg G__law_mul hr gl__law_mul (ja_cons (je_ix (je_v v0) je_int) (ja_cons (je_v v3) ja_nil))) ja_nil))) (ja_cons (je_v v3) ja_nil)))))
  js_nil)
  (js_cons (js_if (jt_cmp (o_eq hr) (je_ix (je_v v0) je_int) je_str (nomark _))
  (js_one (js_ret (je_tup (ja_cons (je_v v2) (ja_cons (je_cg G__law_sub hr gl__law_sub (ja_cons (je_v v3) (ja_cons (je_cg G__law_mul hr gl__law_mul (ja_cons (je_ix (je_v v0) je_int) (ja_cons (je_cg G__law_sub hr gl__law_sub (ja_cons (je_v v2) (ja_cons (je_ix (je_v v0) je_int) ja_nil))) ja_nil))) ja_nil))) ja_nil)))))
  js_nil)
  (js_cons (js_if (jt_cmp (o_eq hr) (je_ix (je_v v0) je_int) je_str (nomark _))
  (js_one (js_ret (je_tup (ja_cons (je_v v2) (ja_cons (je_cg G__law_add hr gl__law_add (ja_cons (je_v v3) (ja_cons (je_ix (je_v v0) je_int) ja_nil))) ja_nil)))))
  js_nil)
  (js_cons (js_if (jt_cmp (o_eq hr) (je_ix (je_v v0) je_int) je_str (nomark _))
  (js_one (js_ret (je_tup (ja_cons (je_cg G__law_mul hr gl__law_mul (ja_cons (je_ix (je_v v0) je_int) (ja_cons (je_v v2) ja_nil))) (ja_cons (je_cg G__law_div hr gl__law_div (ja_cons (je_v v3) (ja_cons (je_ix (je_v v0) je_int) ja_nil))) ja_nil)))))
  js_nil)
  (js_one (js_ret (je_v v1))))))))
theorem g__law_go (KX : K.In base) (GX : base.Ns mainGlobals mg) (c : He.SaysD fa fn K) (hxb : xb K = true) (hns : BaseOk K mg base) (htr : P.given.tree = none) : FnG P w K mg base "_law_go" 4 PG.sp__law_go_3 [] := by
  obtain ⟨fd, F⟩ := c.def_ 39 (d := dd__law_go) rfl
  unfold PG.sp__law_go_3
  exact mkG (N := (["_law_element_here", "_law_ray_here", "_law_height", "_law_slope"] : List Str)) false hns htr F (He.glo_ok KX GX (c.fact 39 (f := .glo "_law_go") rfl)) sc__law_go rfl rfl (fun _ _ _ _ _ _ us hl => match us, hl with | [_, _], _ => rfl) (fun X cdv A outer s H E hX hcd am => by subst hX; exact d__law_go am sc__law_go.nd rfl PassesOwn.never rfl rfl (fun _ => rfl) (g__law_mul (P := P) (w := w) KX GX c hxb hns htr) (g__law_add (P := P) (w := w) KX GX c hxb hns htr) (g__law_sub (P := P) (w := w) KX GX c hxb hns htr) (g__law_div (P := P) (w := w) KX GX c hxb hns htr))

theorem sc__law_blocks : FnScope (["_law_element_here", "_law_ray_here"] : List Str) (["_law_element_here", "_law_ray_here"] : List Str) (defScope s__law_blocks) := ⟨rfl, rfl, rfl, by decide +kernel, rfl, by decide +kernel, by decide +kernel⟩
theorem d__law_blocks {X : Cx} (am : Amb 1 X) (hN : X.N.Nodup) (hc : X.calm = true) (hxe : PassesOwn (model X.prog X.w) X.A X.env X.xe) (eN : X.N = (["_law_element_here", "_law_ray_here"] : List Str)) (eS : X.env.scope = defScope s__law_blocks) (hfn : ∀ x, X.fn x = true) (G__law_less : FnG X.prog X.w X.K X.mg X.base "_law_less" 1 PG.sp__law_less []) : JSs X (defBody s__law_blocks) PG.w__law_blocks := by
  have hr := am.rm
  have n0 : X.N[0]? = some ("_law_element_here" : Str) := by rw [eN]; rfl
  have v0 : SlotOk X 0 "_law_element_here" := slot_of eS eN hfn rfl (.inl rfl)
  have n1 : X.N[1]? = some ("_law_ray_here" : Str) := by rw [eN]; rfl
  have v1 : SlotOk X 1 "_law_ray_here" := slot_of eS eN hfn rfl (.inl rfl)
  have gl__law_less : Gl X "_law_less" := gl_of eS rfl
  exact (js_cons (js_if (jt_cmp (o_ne hr) (je_ix (je_v v0) je_int) je_str (nomark _))
  (js_one (js_ret je_bl))
  js_nil)
  (js_cons (js_if (jw_pt (jw_and (jt_notN (je_ix (je_v v0) je_int)) (jw_and1 (jt_tru (je_cg G__law_less hr gl__law_less (ja_cons (je_ix (je_v v1) je_int) (ja_cons (je_ix (je_v v0) je_int) ja_nil)))))))
  (js_one (js_ret je_bl))
  js_nil)
  (js_one (js_ret (je_and (je_notN (je_ix (je_v v0) je_int)) (je_one (je_cg G__law_less hr gl__law_less (ja_cons (je_ix (je_v v0) je_int) (ja_cons (je_ix (je_v v1) je_int) ja_nil)))))))))
theorem g__law_blocks (KX : K.In base) (GX : base.Ns mainGlobals mg) (c : He.SaysD fa fn K) (hxb : xb K = true) (hns : BaseOk K mg base) (htr : P.given.tree = none) : FnG P w K mg base "_law_blocks" 2 PG.sp__law_blocks [] := by
  obtain ⟨fd, F⟩ := c.def_ 40 (d := dd__law_blocks) rfl
  unfold PG.sp__law_blocks
  exact mkG (N := (["_law_element_here", "_law_ray_here"] : List Str)) false hns htr F (He.glo_ok KX GX (c.fact 40 (f := .glo "_law_blocks") rfl)) sc__law_blocks rfl rfl (fun _ _ _ _ _ _ us hl => match us, hl with | [_, _], _ => rfl) (fun X cdv A outer s H E hX hcd am => by subst hX; exact d__law_blocks am sc__law_blocks.nd rfl PassesOwn.never rfl rfl (fun _ => rfl) (g__law_less (P := P) (w := w) KX GX c hxb hns htr))

theorem sc__law_out : FnScope (["_law_train_here", "_law_ray_here", "_law_element_here"] : List Str) (["_law_train_here", "_law_ray_here"] : List Str) (defScope s__law_out) := ⟨rfl, rfl, rfl, by decide +kernel, rfl, by decide +kernel, by decide +kernel⟩
theorem d__law_out {X : Cx} (am : Amb 4 X) (hN : X.N.Nodup) (hc : X.calm = true) (hxe : PassesOwn (model X.prog X.w) X.A X.env X.xe) (eN : X.N = (["_law_train_here", "_law_ray_here", "_law_element_here"] : List Str)) (eS : X.env.scope = defScope s__law_out) (hfn : ∀ x, X.fn x = true) (G__law_go : FnG X.prog X.w X.K X.mg X.base "_law_go" 4 PG.sp__law_go_3 []) : JSs X (defBody s__law_out) PG.w__law_out_2 := by
  have hr := am.rm
  have n0 : X.N[0]? = some ("_law_train_here" : Str) := by rw [eN]; rfl
  have v0 : SlotOk X 0 "_law_train_here" := slot_of eS eN hfn rfl (.inl rfl)
  have n1 : X.N[1]? = some ("_law_ray_here" : Str) := by rw [eN]; rfl
  have v1 : SlotOk X 1 "_law_ray_here" := slot_of eS eN hfn rfl (.inl rfl)
  have n2 : X.N[2]? = some ("_law_element_here" : Str) := by rw [eN]; rfl
  have v2 : SlotOk X 2 "_law_element_here" := slot_of eS eN hfn rfl (.inl rfl)
  have gl__law_go : Gl X "_law_go" := gl_of eS rfl
  exact (js_cons (js_for hxe hc (ji_any (je_v v0)) (jg_of (pg_v hN v2))
  (js_one (js_st hN v1 (je_cg G__law_go hr gl__law_go (ja_cons (je_v v2) (ja_cons (je_v v1) ja_nil))))))
  (js_one (js_ret (je_v v1))))
theorem g__law_out (KX : K.In base) (GX : base.Ns mainGlobals mg) (c : He.SaysD fa fn K) (hxb : xb K = true) (hns : BaseOk K mg base) (htr : P.given.tree = none) : FnG P w K mg base "_law_out" 5 PG.sp__law_out_2 [] := by
  obtain ⟨fd, F⟩ := c.def_ 41 (d := dd__law_out) rfl
  unfold PG.sp__law_out_2
  exact mkG (N := (["_law_train_here", "_law_ray_here", "_law_element_here"] : List Str)) false hns htr F (He.glo_ok KX GX (c.fact 41 (f := .glo "_law_out") rfl)) sc__law_out rfl rfl (fun _ _ _ _ _ _ us hl => match us, hl with | [_, _], _ => rfl) (fun X cdv A outer s H E hX hcd am => by subst hX; exact d__law_out am sc__law_out.nd rfl PassesOwn.never rfl rfl (fun _ => rfl) (g__law_go (P := P) (w := w) KX GX c hxb hns htr))

theorem sc__law_exit : FnScope (["_law_train_here", "_law_ray_here", "_law_element_here"] : List Str) (["_law_train_here", "_law_ray_here"] : List Str) (defScope s__law_exit) := ⟨rfl, rfl, rfl, by decide +kernel, rfl, by decide +kernel, by decide +kernel⟩
theorem d__law_exit {X : Cx} (am : Amb 4 X) (hN : X.N.Nodup) (hc : X.calm = true) (hxe : PassesOwn (model X.prog X.w) X.A X.env X.xe) (eN : X.N = (["_law_train_here", "_law_ray_here", "_law_element_here"] : List Str)) (eS : X.env.scope = defScope s__law_exit) (hfn : ∀ x, X.fn x = true) (G__law_blocks : FnG X.prog X.w X.K X.mg X.base "_law_blocks" 2 PG.sp__law_blocks []) (G__law_go : FnG X.prog X.w X.K X.mg X.base "_law_go" 4 PG.sp__law_go_3 []) : JSs X (defBody s__law_exit) PG.w__law_exit := by
  have hr := am.rm
  have n0 : X.N[0]? = some ("_law_train_here" : Str) := by rw [eN]; rfl
  have v0 : SlotOk X 0 "_law_train_here" := slot_of eS eN hfn rfl (.inl rfl)
  have n1 : X.N[1]? = some ("_law_ray_here" : Str) := by rw [eN]; rfl
  have v1 : SlotOk X 1 "_law_ray_here" := slot_of eS eN hfn rfl (.inl rfl)
  have n2 : X.N[2]? = some ("_law_element_here" : Str) := by rw [eN]; rfl
  have v2 : SlotOk X 2 "_law_element_here" := slot_of eS eN hfn rfl (.inl rfl)
  have gl__law_blocks : Gl X "_law_blocks" := gl_of eS rfl
  have gl__law_go : Gl X "_law_go" := gl_of eS rfl
  exact (js_cons (js_for hxe hc (ji_any (je_v v0)) (jg_of (pg_v hN v2))
  (js_cons (js_if (jt_tru (je_cg G__law_blocks hr gl__law_blocks (ja_cons (je_v v2) (ja_cons (je_v v1) ja_nil))))
  (js_one (js_ret je_non))
  js_nil)
  (js_one (js_st hN v1 (je_cg G__law_go hr gl__law_go (ja_cons (je_v v2) (ja_cons (je_v v1) ja_nil)))))))
  (js_one (js_ret (je_v v1))))
theorem g__law_exit (KX : K.In base) (GX : base.Ns mainGlobals mg) (c : He.SaysD fa fn K) (hxb : xb K = true) (hns : BaseOk K mg base) (htr : P.given.tree = none) : FnG P w K mg base "_law_exit" 5 PG.sp__law_exit [] := by
  obtain ⟨fd, F⟩ := c.def_ 42 (d := dd__law_exit) rfl
  unfold PG.sp__law_exit
  exact mkG (N := (["_law_train_here", "_law_ray_here", "_law_element_here"] : List Str)) false hns htr F (He.glo_ok KX GX (c.fact 42 (f := .glo "_law_exit") rfl)) sc__law_exit rfl rfl (fun _ _ _ _ _ _ us hl => match us, hl with | [_, _], _ => rfl) (fun X cdv A outer s H E hX hcd am => by subst hX; exact d__law_exit am sc__law_exit.nd rfl PassesOwn.never rfl rfl (fun _ => rfl) (g__law_blocks (P := P) (w := w) KX GX c hxb hns htr) (g__law_go (P := P) (w := w) KX GX c hxb hns htr))

theorem sc__law_map : FnScope (["_law_train_here", "_law_zero", "_law_one", "_law_two", "_law_top", "_law_bottom"] : List Str) (["_law_train_here"] : List Str) (defScope s__law_map) := ⟨rfl, rfl, rfl, by decide +kernel, rfl, by decide +kernel, by decide +kernel⟩
theorem d__law_map {X : Cx} (am : Amb 5 X) (hN : X.N.Nodup) (hc : X.calm = true) (hxe : PassesOwn (model X.prog X.w) X.A X.env X.xe) (eN : X.N = (["_law_train_here", "_law_zero", "_law_one", "_law_two", "_law_top", "_law_bottom"] : List Str)) (eS : X.env.scope = defScope s__law_map) (hfn : ∀ x, X.fn x = true) (G__law_out : FnG X.prog X.w X.K X.mg X.base "_law_out" 5 PG.sp__law_out_2 []) (G__law_sub : FnG X.prog X.w X.K X.mg X.base "_law_sub" 3 PG.sp__law_sub_3 []) : JSs X (defBody s__law_map) PG.w__law_map_2 := by
  have hr := am.rm
  have n0 : X.N[0]? = some ("_law_train_here" : Str) := by rw [eN]; rfl
  have v0 : SlotOk X 0 "_law_train_here" := slot_of eS eN hfn rfl (.inl rfl)
  have n1 : X.N[1]? = some ("_law_zero" : Str) := by rw [eN]; rfl
  have v1 : SlotOk X 1 "_law_zero" := slot_of eS eN hfn rfl (.inl rfl)
  have n2 : X.N[2]? = some ("_law_one" : Str) := by rw [eN]; rfl
  have v2 : SlotOk X 2 "_law_one" := slot_of eS eN hfn rfl (.inl rfl)
  have n3 : X.N[3]? = some ("_law_two" : Str) := by rw [eN]; rfl
  have v3 : SlotOk X 3 "_law_two" := slot_of eS eN hfn rfl (.inl rfl)
  have n4 : X.N[4]? = some ("_law_top" : Str) := by rw [eN]; rfl
  have v4 : SlotOk X 4 "_law_top" := slot_of eS eN hfn rfl (.inl rfl)
  have n5 : X.N[5]? = some ("_law_bottom" : Str) := by rw [eN]; rfl
  have v5 : SlotOk X 5 "_law_bottom" := slot_of eS eN hfn rfl (.inl rfl)
  have gl__law_out : Gl X "_law_out" := gl_of eS rfl
  have gl__law_sub : Gl X "_law_sub" := gl_of eS rfl
  exact (js_cons (js_st hN v1 (je_cg G__law_out hr gl__law_out (ja_cons (je_v v0) (ja_cons (je_tup (ja_cons (je_tup (ja_cons je_int (ja_cons je_int ja_nil))) (ja_cons (je_tup (ja_cons je_int (ja_cons je_int ja_nil))) ja_nil))) ja_nil))))
  (js_cons (js_st hN v2 (je_cg G__law_out hr gl__law_out (ja_cons (je_v v0) (ja_cons (je_tup (ja_cons (je_tup (ja_cons je_int (ja_cons je_int ja_nil))) (ja_cons (je_tup (ja_cons je_int (ja_cons je_int ja_nil))) ja_nil))) ja_nil))))
  (js_cons (js_st hN v3 (je_cg G__law_out hr gl__law_out (ja_cons (je_v v0) (ja_cons (je_tup (ja_cons (je_tup (ja_cons je_int (ja_cons je_int ja_nil))) (ja_cons (je_tup (ja_cons je_int (ja_cons je_int ja_nil))) ja_nil))) ja_nil))))
  (js_cons (js_st hN v4 (je_tup (ja_cons (je_cg G__law_sub hr gl__law_sub (ja_cons (je_ix (je_v v2) je_int) (ja_cons (je_ix (je_v v1) je_int) ja_nil))) (ja_cons (je_cg G__law_sub hr gl__law_sub (ja_cons (je_ix (je_v v3) je_int) (ja_cons (je_ix (je_v v1) je_int) ja_nil))) ja_nil))))
  (js_cons (js_st hN v5 (je_tup (ja_cons (je_cg G__law_sub hr gl__law_sub (ja_cons (je_ix (je_v v2) je_int) (ja_cons (je_ix (je_v v1) je_int) ja_nil))) (ja_cons (je_cg G__law_sub hr gl__law_sub (ja_cons (je_ix (je_v v3) je_int) (ja_cons (je_ix (je_v v1) je_int) ja_nil))) ja_nil))))
  (js_one (js_ret (je_op o_addA (je_op o_addA (je_v v4) (je_v v5)) (je_v v1)))))))))
theorem g__law_map (KX : K.In base) (GX : base.Ns mainGlobals mg) (c : He.SaysD fa fn K) (hxb : xb K = true) (hns : BaseOk K mg base) (htr : P.given.tree = none) : FnG P w K mg base "_law_map" 6 PG.sp__law_map_2 [] := by
  obtain ⟨fd, F⟩ := c.def_ 43 (d := dd__law_map) rfl
  unfold PG.sp__law_map_2
  exact mkG (N := (["_law_train_here", "_law_zero", "_law_one", "_law_two", "_law_top", "_law_bottom"] : List Str)) false hns htr F (He.glo_ok KX GX (c.fact 43 (f := .glo "_law_map") rfl)) sc__law_map rfl rfl (fun _ _ _ _ _ _ us hl => match us, hl with | [_], _ => rfl) (fun X cdv A outer s H E hX hcd am => by subst hX; exact d__law_map am sc__law_map.nd rfl PassesOwn.never rfl rfl (fun _ => rfl) (g__law_out (P := P) (w := w) KX GX c hxb hns htr) (g__law_sub (P := P) (w := w) KX GX c hxb hns htr))

theorem sc__law_plane : FnScope (["_law_p", "_law_q", "_law_r", "_law_whole", "_law_part", "_law_parts", "_law_share", "_law_one"] : List Str) (["_law_p", "_law_q", "_law_r"] : List Str) (defScope s__law_plane) := ⟨rfl, rfl, rfl, by decide +kernel, rfl, by decide +kernel, by decide +kernel⟩
theorem d__law_plane {X : Cx} (am : Amb 0 X) (hN : X.N.Nodup) (hc : X.calm = true) (hxe : PassesOwn (model X.prog X.w) X.A X.env X.xe) (eN : X.N = (["_law_p", "_law_q", "_law_r", "_law_whole", "_law_part", "_law_parts", "_law_share", "_law_one"] : List Str)) (eS : X.env.scope = defScope s__law_plane) (hfn : ∀ x, X.fn x = true) (fr_abs : X.mg "abs" = none) (fr_int : X.mg "int" = none) : JSs X (defBody s__law_plane) PG.w__law_plane_3 := by
  have hr := am.rm
  have n0 : X.N[0]? = some ("_law_p" : Str) := by rw [eN]; rfl
  have v0 : SlotOk X 0 "_law_p" := slot_of eS eN hfn rfl (.inl rfl)
  have n1 : X.N[1]? = some ("_law_q" : Str) := by rw [eN]; rfl
  have v1 : SlotOk X 1 "_law_q" := slot_of eS eN hfn rfl (.inl rfl)
  have n2 : X.N[2]? = some ("_law_r" : Str) := by rw [eN]; rfl
  have v2 : SlotOk X 2 "_law_r" := slot_of eS eN hfn rfl (.inl rfl)
  have n3 : X.N[3]? = some ("_law_whole" : Str) := by rw [eN]; rfl
  have v3 : SlotOk X 3 "_law_whole" := slot_of eS eN hfn rfl (.inr rfl)
  have n4 : X.N[4]? = some ("_law_part" : Str) := by rw [eN]; rfl
  have v4 : SlotOk X 4 "_law_part" := slot_of eS eN hfn rfl (.inl rfl)
  have n5 : X.N[5]? = some ("_law_parts" : Str) := by rw [eN]; rfl
  have v5 : SlotOk X 5 "_law_parts" := slot_of eS eN hfn rfl (.inl rfl)
  have n6 : X.N[6]? = some ("_law_share" : Str) := by rw [eN]; rfl
  have v6 : SlotOk X 6 "_law_share" := slot_of eS eN hfn rfl (.inl rfl)
  have n7 : X.N[7]? = some ("_law_one" : Str) := by rw [eN]; rfl
  have v7 : SlotOk X 7 "_law_one" := slot_of eS eN hfn rfl (.inl rfl)
  have gl_abs : Gl X "abs" := gl_of eS rfl
  have gl_int : Gl X "int" := gl_of eS rfl
  exact (js_cons (js_st hN v3 (je_op o_mul (je_op o_mul (je_ix (je_v v0) je_int) (je_ix (je_v v1) je_int)) (je_ix (je_v v2) je_int)))
  (js_cons (js_setLc false (i := 5) (own' := [("_law_part", 4)]) (by decide) hc hN n5 (by rw [eS]; rfl) (sw_true (by rw [eS]; rfl) (by rw [eS]; rfl) rfl (by decide +kernel)) (ji_any (je_lst (ja_cons (je_v v0) (ja_cons (je_v v1) (ja_cons (je_v v2) ja_nil))))) (blk_of eN eS (own := [("_law_part", 4)]) (by decide +kernel)) (fun s H C cl fp => (jg_of (pg_name (i := 4) hN n4 (by first | exact .inl rfl | exact .inr rfl)))) (fun s H C cl fp => jts_nil) (fun s H C cl fp => (je_op o_mul (je_ix (je_var 4 n4 (hv := (by first | exact Or.inl rfl | exact Or.inr (Or.inl rfl) | exact vis_free (by decide +kernel)))) je_int) (je_op (o_fdiv am.py) (je_var 3 n3 (hv := vis_free (by decide +kernel))) (je_ix (je_var 4 n4 (hv := (by first | exact Or.inl rfl | exact Or.inr (Or.inl rfl) | exact vis_free (by decide +kernel)))) je_int)))))
  (js_cons (js_st hN v6 je_int)
  (js_cons (js_for hxe hc (ji_any (je_v v5)) (jg_of (pg_v hN v4))
  (js_cons (js_st hN v7 (je_bi b_abs gl_abs fr_abs RT.boot_abs (ja_cons (je_v v4) ja_nil)))
  (js_one (js_while hxe (jt_cmp o_gt (je_v v7) je_int (nomark _))
  (js_one (js_par (i := 6) (j := 7) hc hN n6 n7 (by decide) (by rw [eS]; rfl) (by rw [eS]; rfl) (ja_cons (je_v v7) (ja_cons (je_op o_mod (je_bty b_int gl_int fr_int RT.boot_int (ja_cons (je_v v6) ja_nil)) (je_v v7)) ja_nil)) (swap_ok (by rw [eS]; rfl) (by rw [eS]; rfl) (by rw [eS]; rfl) (by decide) rfl rfl rfl (by decide +kernel) (by decide +kernel))))))))
  (js_one (js_ret (je_tup (ja_cons (je_op (o_fdiv am.py) (je_ix (je_v v5) je_int) (je_v v6)) (ja_cons (je_op (o_fdiv am.py) (je_ix (je_v v5) je_int) (je_v v6)) (ja_cons (je_op (o_fdiv am.py) (je_ix (je_v v5) je_int) (je_v v6)) ja_nil))))))))))
theorem g__law_plane (KX : K.In base) (GX : base.Ns mainGlobals mg) (c : He.SaysD fa fn K) (hxb : xb K = true) (hns : BaseOk K mg base) (htr : P.given.tree = none) : FnG P w K mg base "_law_plane" 1 PG.sp__law_plane_3 [] := by
  obtain ⟨fd, F⟩ := c.def_ 44 (d := dd__law_plane) rfl
  unfold PG.sp__law_plane_3
  exact mkG (N := (["_law_p", "_law_q", "_law_r", "_law_whole", "_law_part", "_law_parts", "_law_share", "_law_one"] : List Str)) false hns htr F (He.glo_ok KX GX (c.fact 44 (f := .glo "_law_plane") rfl)) sc__law_plane rfl rfl (fun _ _ _ _ _ _ us hl => match us, hl with | [_, _, _], _ => rfl) (fun X cdv A outer s H E hX hcd am => by subst hX; exact d__law_plane am sc__law_plane.nd rfl PassesOwn.never rfl rfl (fun _ => rfl) (He.free_ok KX GX (c.fact 55 (f := .free "abs") rfl)) (He.free_ok KX GX (c.fact 59 (f := .free "int") rfl)))

theorem sc__law_edges : FnScope (["_law_train_here", "_law_found", "_law_place", "_law_element_here", "_law_a", "_law_b", "_law_c", "_law_d", "_law_e", "_law_f"] : List Str) (["_law_train_here"] : List Str) (defScope s__law_edges) := ⟨rfl, rfl, rfl, by decide +kernel, rfl, by decide +kernel, by decide +kernel⟩
theorem d__law_edges {X : Cx} (am : Amb 6 X) (hN : X.N.Nodup) (hc : X.calm = true) (hxe : PassesOwn (model X.prog X.w) X.A X.env X.xe) (eN : X.N = (["_law_train_here", "_law_found", "_law_place", "_law_element_here", "_law_a", "_law_b", "_law_c", "_law_d", "_law_e", "_law_f"] : List Str)) (eS : X.env.scope = defScope s__law_edges) (hfn : ∀ x, X.fn x = true) (fr_range : X.mg "range" = none) (fr_len : X.mg "len" = none) (G__law_map : FnG X.prog X.w X.K X.mg X.base "_law_map" 6 PG.sp__law_map_2 []) (G__law_sub : FnG X.prog X.w X.K X.mg X.base "_law_sub" 3 PG.sp__law_sub_3 []) (G__law_neg : FnG X.prog X.w X.K X.mg X.base "_law_neg" 1 PG.sp__law_neg []) (G__law_plane : FnG X.prog X.w X.K X.mg X.base "_law_plane" 1 PG.sp__law_plane_3 []) : JSs X (defBody s__law_edges) PG.w__law_edges := by
  have hr := am.rm
  have n0 : X.N[0]? = some ("_law_train_here" : Str) := by rw [eN]; rfl
  have v0 : SlotOk X 0 "_law_train_here" := slot_of eS eN hfn rfl (.inl rfl)
  have n1 : X.N[1]? = some ("_law_found" : Str) := by rw [eN]; rfl
  have v1 : SlotOk X 1 "_law_found" := slot_of eS eN hfn rfl (.inl rfl)
  have n2 : X.N[2]? = some ("_law_place" : Str) := by rw [eN]; rfl
  have v2 : SlotOk X 2 "_law_place" := slot_of eS eN hfn rfl (.inl rfl)
  have n3 : X.N[3]? = some ("_law_element_here" : Str) := by rw [eN]; rfl
  have v3 : SlotOk X 3 "_law_element_here" := slot_of eS eN hfn rfl (.inl rfl)
  have n4 : X.N[4]? = some ("_law_a" : Str) := by rw [eN]; rfl
  have v4 : SlotOk X 4 "_law_a" := slot_of eS eN hfn rfl (.inl rfl)
  have n5 : X.N[5]? = some ("_law_b" : Str) := by rw [eN]; rfl
  have v5 : SlotOk X 5 "_law_b" := slot_of eS eN hfn rfl (.inl rfl)
  have n6 : X.N[6]? = some ("_law_c" : Str) := by rw [eN]; rfl
  have v6 : SlotOk X 6 "_law_c" := slot_of eS eN hfn rfl (.inl rfl)
  have n7 : X.N[7]? = some ("_law_d" : Str) := by rw [eN]; rfl
  have v7 : SlotOk X 7 "_law_d" := slot_of eS eN hfn rfl (.inl rfl)
  have n8 : X.N[8]? = some ("_law_e" : Str) := by rw [eN]; rfl
  have v8 : SlotOk X 8 "_law_e" := slot_of eS eN hfn rfl (.inl rfl)
  have n9 : X.N[9]? = some ("_law_f" : Str) := by rw [eN]; rfl
  have v9 : SlotOk X 9 "_law_f" := slot_of eS eN hfn rfl (.inl rfl)
  have gl_range : Gl X "range" := gl_of eS rfl
  have gl_len : Gl X "len" := gl_of eS rfl
  have gl__law_map : Gl X "_law_map" := gl_of eS rfl
  have gl__law_sub : Gl X "_law_sub" := gl_of eS rfl
  have gl__law_neg : Gl X "_law_neg" := gl_of eS rfl
  have gl__law_plane : Gl X "_law_plane" := gl_of eS rfl
  exact (js_cons (js_st hN v1 (je_lstO ja_nil))
  (js_cons (js_for hxe hc (ji_range1 gl_range fr_range (ja_cons (je_bi b_len gl_len fr_len RT.boot_len (ja_cons (je_v v0) ja_nil)) ja_nil)) (jg_of (pg_v hN v2))
  (js_cons (js_st hN v3 (je_ix (je_v v0) (je_v v2)))
  (js_one (js_if (jt_cmp (o_eq hr) (je_ix (je_v v3) je_int) je_str (nomark _))
  (js_cons (js_asg (je_cg G__law_map hr gl__law_map (ja_cons (je_sl false (je_v v0) jo_none (jo_some (je_v v2))) ja_nil)) (jg_of (pg_tup hc (pgs_cons (pg_v hN v4) (pgs_cons (pg_v hN v5) (pgs_cons (pg_v hN v6) (pgs_cons (pg_v hN v7) (pgs_cons (pg_v hN v8) (pgs_cons (pg_v hN v9) pgs_nil)))))))))
  (js_cons (js_if (jt_notN (je_ix (je_v v3) je_int))
  (js_one (js_do (je_meth PySem.F.slot_list_append PySem.F.type_list_append m_append (je_v v1) (ja_cons (je_tup (ja_cons (je_tup (ja_cons (je_v v2) (ja_cons je_str ja_nil))) (ja_cons (je_cg G__law_plane hr gl__law_plane (ja_cons (je_cg G__law_neg hr gl__law_neg (ja_cons (je_v v4) ja_nil)) (ja_cons (je_cg G__law_neg hr gl__law_neg (ja_cons (je_v v5) ja_nil)) (ja_cons (je_cg G__law_sub hr gl__law_sub (ja_cons (je_v v8) (ja_cons (je_ix (je_v v3) je_int) ja_nil))) ja_nil)))) ja_nil))) ja_nil))))
  js_nil)
  (js_one (js_if (jt_notN (je_ix (je_v v3) je_int))
  (js_one (js_do (je_meth PySem.F.slot_list_append PySem.F.type_list_append m_append (je_v v1) (ja_cons (je_tup (ja_cons (je_tup (ja_cons (je_v v2) (ja_cons je_str ja_nil))) (ja_cons (je_cg G__law_plane hr gl__law_plane (ja_cons (je_v v4) (ja_cons (je_v v5) (ja_cons (je_cg G__law_sub hr gl__law_sub (ja_cons (je_ix (je_v v3) je_int) (ja_cons (je_v v8) ja_nil))) ja_nil)))) ja_nil))) ja_nil))))
  js_nil))))
  js_nil))))
  (js_one (js_ret (je_v v1)))))
theorem g__law_edges (KX : K.In base) (GX : base.Ns mainGlobals mg) (c : He.SaysD fa fn K) (hxb : xb K = true) (hns : BaseOk K mg base) (htr : P.given.tree = none) : FnG P w K mg base "_law_edges" 7 PG.sp__law_edges [] := by
  obtain ⟨fd, F⟩ := c.def_ 45 (d := dd__law_edges) rfl
  unfold PG.sp__law_edges
  exact mkG (N := (["_law_train_here", "_law_found", "_law_place", "_law_element_here", "_law_a", "_law_b", "_law_c", "_law_d", "_law_e", "_law_f"] : List Str)) false hns htr F (He.glo_ok KX GX (c.fact 45 (f := .glo "_law_edges") rfl)) sc__law_edges rfl rfl (fun _ _ _ _ _ _ us hl => match us, hl with | [_], _ => rfl) (fun X cdv A outer s H E hX hcd am => by subst hX; exact d__law_edges am sc__law_edges.nd rfl PassesOwn.never rfl rfl (fun _ => rfl) (He.free_ok KX GX (c.fact 58 (f := .free "range") rfl)) (He.free_ok KX GX (c.fact 57 (f := .free "len") rfl)) (g__law_map (P := P) (w := w) KX GX c hxb hns htr) (g__law_sub (P := P) (w := w) KX GX c hxb hns htr) (g__law_neg (P := P) (w := w) KX GX c hxb hns htr) (g__law_plane (P := P) (w := w) KX GX c hxb hns htr))

theorem sc__law_planes : FnScope (["_law_train_here", "_law_edge"] : List Str) (["_law_train_here"] : List Str) (defScope s__law_planes) := ⟨rfl, rfl, rfl, by decide +kernel, rfl, by decide +kernel, by decide +kernel⟩
theorem d__law_planes {X : Cx} (am : Amb 7 X) (hN : X.N.Nodup) (hc : X.calm = true) (hxe : PassesOwn (model X.prog X.w) X.A X.env X.xe) (eN : X.N = (["_law_train_here", "_law_edge"] : List Str)) (eS : X.env.scope = defScope s__law_planes) (hfn : ∀ x, X.fn x = true) (G__law_edges : FnG X.prog X.w X.K X.mg X.base "_law_edges" 7 PG.sp__law_edges []) : JSs X (defBody s__law_planes) PG.w__law_planes_3 := by
  have hr := am.rm
  have n0 : X.N[0]? = some ("_law_train_here" : Str) := by rw [eN]; rfl
  have v0 : SlotOk X 0 "_law_train_here" := slot_of eS eN hfn rfl (.inl rfl)
  have n1 : X.N[1]? = some ("_law_edge" : Str) := by rw [eN]; rfl
  have gl__law_edges : Gl X "_law_edges" := gl_of eS rfl
  exact (js_one (js_ret (je_lc false (own' := [("_law_edge", 1)]) (by decide) hc hN (ji_any (je_cg G__law_edges hr gl__law_edges (ja_cons (je_v v0) ja_nil))) (blk_of eN eS (own := [("_law_edge", 1)]) (by decide +kernel)) (fun s H C cl fp => (jg_of (pg_name (i := 1) hN n1 (by first | exact .inl rfl | exact .inr rfl)))) (fun s H C cl fp => jts_nil) (fun s H C cl fp => (je_ix (je_var 1 n1 (hv := (by first | exact Or.inl rfl | exact Or.inr (Or.inl rfl) | exact vis_free (by decide +kernel)))) je_int)))))
theorem g__law_planes (KX : K.In base) (GX : base.Ns mainGlobals mg) (c : He.SaysD fa fn K) (hxb : xb K = true) (hns : BaseOk K mg base) (htr : P.given.tree = none) : FnG P w K mg base "_law_planes" 8 PG.sp__law_planes_3 [] := by
  obtain ⟨fd, F⟩ := c.def_ 46 (d := dd__law_planes) rfl
  unfold PG.sp__law_planes_3
  exact mkG (N := (["_law_train_here", "_law_edge"] : List Str)) false hns htr F (He.glo_ok KX GX (c.fact 46 (f := .glo "_law_planes") rfl)) sc__law_planes rfl rfl (fun _ _ _ _ _ _ us hl => match us, hl with | [_], _ => rfl) (fun X cdv A outer s H E hX hcd am => by subst hX; exact d__law_planes am sc__law_planes.nd rfl PassesOwn.never rfl rfl (fun _ => rfl) (g__law_edges (P := P) (w := w) KX GX c hxb hns htr))

theorem sc__law_line : FnScope (["_law_plane_here", "_law_p", "_law_q", "_law_a", "_law_b", "_law_c", "_law_share", "_law_part"] : List Str) (["_law_plane_here", "_law_p", "_law_q"] : List Str) (defScope s__law_line) := ⟨rfl, rfl, rfl, by decide +kernel, rfl, by decide +kernel, by decide +kernel⟩
theorem d__law_line {X : Cx} (am : Amb 3 X) (hN : X.N.Nodup) (hc : X.calm = true) (hxe : PassesOwn (model X.prog X.w) X.A X.env X.xe) (eN : X.N = (["_law_plane_here", "_law_p", "_law_q", "_law_a", "_law_b", "_law_c", "_law_share", "_law_part"] : List Str)) (eS : X.env.scope = defScope s__law_line) (hfn : ∀ x, X.fn x = true) (G__law_div : FnG X.prog X.w X.K X.mg X.base "_law_div" 2 PG.sp__law_div_2 []) (G__law_mul : FnG X.prog X.w X.K X.mg X.base "_law_mul" 2 PG.sp__law_mul_3 []) (G__law_sub : FnG X.prog X.w X.K X.mg X.base "_law_sub" 3 PG.sp__law_sub_3 []) : JSs X (defBody s__law_line) PG.w__law_line := by
  have hr := am.rm
  have n0 : X.N[0]? = some ("_law_plane_here" : Str) := by rw [eN]; rfl
  have v0 : SlotOk X 0 "_law_plane_here" := slot_of eS eN hfn rfl (.inl rfl)
  have n1 : X.N[1]? = some ("_law_p" : Str) := by rw [eN]; rfl
  have v1 : SlotOk X 1 "_law_p" := slot_of eS eN hfn rfl (.inl rfl)
  have n2 : X.N[2]? = some ("_law_q" : Str) := by rw [eN]; rfl
  have v2 : SlotOk X 2 "_law_q" := slot_of eS eN hfn rfl (.inl rfl)
  have n3 : X.N[3]? = some ("_law_a" : Str) := by rw [eN]; rfl
  have v3 : SlotOk X 3 "_law_a" := slot_of eS eN hfn rfl (.inl rfl)
  have n4 : X.N[4]? = some ("_law_b" : Str) := by rw [eN]; rfl
  have v4 : SlotOk X 4 "_law_b" := slot_of eS eN hfn rfl (.inl rfl)
  have n5 : X.N[5]? = some ("_law_c" : Str) := by rw [eN]; rfl
  have v5 : SlotOk X 5 "_law_c" := slot_of eS eN hfn rfl (.inl rfl)
  have n6 : X.N[6]? = some ("_law_share" : Str) := by rw [eN]; rfl
  have v6 : SlotOk X 6 "_law_share" := slot_of eS eN hfn rfl (.inl rfl)
  have n7 : X.N[7]? = some ("_law_part" : Str) := by rw [eN]; rfl
  have gl__law_div : Gl X "_law_div" := gl_of eS rfl
  have gl__law_mul : Gl X "_law_mul" := gl_of eS rfl
  have gl__law_sub : Gl X "_law_sub" := gl_of eS rfl
  exact (js_cons (js_asgL (je_lc false (own' := [("_law_part", 7)]) (by decide) hc hN (ji_any (je_v v0)) (blk_of eN eS (own := [("_law_part", 7)]) (by decide +kernel)) (fun s H C cl fp => (jg_of (pg_name (i := 7) hN n7 (by first | exact .inl rfl | exact .inr rfl)))) (fun s H C cl fp => jts_nil) (fun s H C cl fp => (je_tup (ja_cons (je_var 7 n7 (hv := (by first | exact Or.inl rfl | exact Or.inr (Or.inl rfl) | exact vis_free (by decide +kernel)))) (ja_cons je_int ja_nil))))) (pg_lst hc (pgs_cons (pg_v hN v3) (pgs_cons (pg_v hN v4) (pgs_cons (pg_v hN v5) pgs_nil)))))
  (js_cons (js_if (jt_cmp (o_ne hr) (je_ix (je_v v2) je_int) je_int (nomark _))
  (js_cons (js_st hN v6 (je_cg G__law_div hr gl__law_div (ja_cons (je_v v4) (ja_cons (je_v v2) ja_nil))))
  (js_one (js_ret (je_tup (ja_cons (je_v v6) (ja_cons (je_cg G__law_sub hr gl__law_sub (ja_cons (je_v v3) (ja_cons (je_cg G__law_mul hr gl__law_mul (ja_cons (je_v v6) (ja_cons (je_v v1) ja_nil))) ja_nil))) (ja_cons (je_v v5) ja_nil)))))))
  js_nil)
  (js_one (js_ret (je_tup (ja_cons (je_cg G__law_div hr gl__law_div (ja_cons (je_v v3) (ja_cons (je_v v1) ja_nil))) (ja_cons (je_v v4) (ja_cons (je_v v5) ja_nil))))))))
theorem g__law_line (KX : K.In base) (GX : base.Ns mainGlobals mg) (c : He.SaysD fa fn K) (hxb : xb K = true) (hns : BaseOk K mg base) (htr : P.given.tree = none) : FnG P w K mg base "_law_line" 4 PG.sp__law_line [] := by
  obtain ⟨fd, F⟩ := c.def_ 47 (d := dd__law_line) rfl
  unfold PG.sp__law_line
  exact mkG (N := (["_law_plane_here", "_law_p", "_law_q", "_law_a", "_law_b", "_law_c", "_law_share", "_law_part"] : List Str)) false hns htr F (He.glo_ok KX GX (c.fact 47 (f := .glo "_law_line") rfl)) sc__law_line rfl rfl (fun _ _ _ _ _ _ us hl => match us, hl with | [_, _, _], _ => rfl) (fun X cdv A outer s H E hX hcd am => by subst hX; exact d__law_line am sc__law_line.nd rfl PassesOwn.never rfl rfl (fun _ => rfl) (g__law_div (P := P) (w := w) KX GX c hxb hns htr) (g__law_mul (P := P) (w := w) KX GX c hxb hns htr) (g__law_sub (P := P) (w := w) KX GX c hxb hns htr))

theorem sc__law_bounds : FnScope (["_law_planes_here", "_law_p", "_law_q", "_law_lines", "_law_rows", "_law_one", "_law_other", "_law_share", "_law_top", "_law_lower", "_law_upper", "_law_row_here", "_law_least_here", "_law_most", "_law_plane_here", "_law_line_here"] : List Str) (["_law_planes_here", "_law_p", "_law_q"] : List Str) (defScope s__law_bounds) := ⟨rfl, rfl, rfl, by decide +kernel, rfl, by decide +kernel, by decide +kernel⟩
theorem d__law_bounds {X : Cx} (am : Amb 4 X) (hN : X.N.Nodup) (hc : X.calm = true) (hxe : PassesOwn (model X.prog X.w) X.A X.env X.xe) (eN : X.N = (["_law_planes_here", "_law_p", "_law_q", "_law_lines", "_law_rows", "_law_one", "_law_other", "_law_share", "_law_top", "_law_lower", "_law_upper", "_law_row_here", "_law_least_here", "_law_most", "_law_plane_here", "_law_line_here"] : List Str)) (eS : X.env.scope = defScope s__law_bounds) (hfn : ∀ x, X.fn x = true) (G__law_line : FnG X.prog X.w X.K X.mg X.base "_law_line" 4 PG.sp__law_line []) (G__law_div : FnG X.prog X.w X.K X.mg X.base "_law_div" 2 PG.sp__law_div_2 []) (G__law_neg : FnG X.prog X.w X.K X.mg X.base "_law_neg" 1 PG.sp__law_neg []) (G__law_mul : FnG X.prog X.w X.K X.mg X.base "_law_mul" 2 PG.sp__law_mul_3 []) (G__law_add : FnG X.prog X.w X.K X.mg X.base "_law_add" 2 PG.sp__law_add_3 []) (G__law_greatest : FnG X.prog X.w X.K X.mg X.base "_law_greatest" 2 PG.sp__law_greatest []) (G__law_least : FnG X.prog X.w X.K X.mg X.base "_law_least" 2 PG.sp__law_least_3 []) (G__law_less : FnG X.prog X.w X.K X.mg X.base "_law_less" 1 PG.sp__law_less []) : JSs X (defBody s__law_bounds) PG.w__law_bounds := by
  have hr := am.rm
  have n0 : X.N[0]? = some ("_law_planes_here" : Str) := by rw [eN]; rfl
  have v0 : SlotOk X 0 "_law_planes_here" := slot_of eS eN hfn rfl (.inl rfl)
  have n1 : X.N[1]? = some ("_law_p" : Str) := by rw [eN]; rfl
  have v1 : SlotOk X 1 "_law_p" := slot_of eS eN hfn rfl (.inr rfl)
  have n2 : X.N[2]? = some ("_law_q" : Str) := by rw [eN]; rfl
  have v2 : SlotOk X 2 "_law_q" := slot_of eS eN hfn rfl (.inr rfl)
  have n3 : X.N[3]? = some ("_law_lines" : Str) := by rw [eN]; rfl
  have v3 : SlotOk X 3 "_law_lines" := slot_of eS eN hfn rfl (.inl rfl)
  have n4 : X.N[4]? = some ("_law_rows" : Str) := by rw [eN]; rfl
  have v4 : SlotOk X 4 "_law_rows" := slot_of eS eN hfn rfl (.inl rfl)
  have n5 : X.N[5]? = some ("_law_one" : Str) := by rw [eN]; rfl
  have v5 : SlotOk X 5 "_law_one" := slot_of eS eN hfn rfl (.inl rfl)
  have n6 : X.N[6]? = some ("_law_other" : Str) := by rw [eN]; rfl
  have v6 : SlotOk X 6 "_law_other" := slot_of eS eN hfn rfl (.inl rfl)
  have n7 : X.N[7]? = some ("_law_share" : Str) := by rw [eN]; rfl
  have v7 : SlotOk X 7 "_law_share" := slot_of eS eN hfn rfl (.inl rfl)
  have n8 : X.N[8]? = some ("_law_top" : Str) := by rw [eN]; rfl
  have v8 : SlotOk X 8 "_law_top" := slot_of eS eN hfn rfl (.inl rfl)
  have n9 : X.N[9]? = some ("_law_lower" : Str) := by rw [eN]; rfl
  have v9 : SlotOk X 9 "_law_lower" := slot_of eS eN hfn rfl (.inl rfl)
  have n10 : X.N[10]? = some ("_law_upper" : Str) := by rw [eN]; rfl
  have v10 : SlotOk X 10 "_law_upper" := slot_of eS eN hfn rfl (.inl rfl)
  have n11 : X.N[11]? = some ("_law_row_here" : Str) := by rw [eN]; rfl
  have v11 : SlotOk X 11 "_law_row_here" := slot_of eS eN hfn rfl (.inl rfl)
  have n12 : X.N[12]? = some ("_law_least_here" : Str) := by rw [eN]; rfl
  have v12 : SlotOk X 12 "_law_least_here" := slot_of eS eN hfn rfl (.inl rfl)
  have n13 : X.N[13]? = some ("_law_most" : Str) := by rw [eN]; rfl
  have v13 : SlotOk X 13 "_law_most" := slot_of eS eN hfn rfl (.inl rfl)
  have n14 : X.N[14]? = some ("_law_plane_here" : Str) := by rw [eN]; rfl
  have n15 : X.N[15]? = some ("_law_line_here" : Str) := by rw [eN]; rfl
  have gl__law_div : Gl X "_law_div" := gl_of eS rfl
  have gl__law_neg : Gl X "_law_neg" := gl_of eS rfl
  have gl__law_mul : Gl X "_law_mul" := gl_of eS rfl
  have gl__law_add : Gl X "_law_add" := gl_of eS rfl
  have gl__law_greatest : Gl X "_law_greatest" := gl_of eS rfl
  have gl__law_least : Gl X "_law_least" := gl_of eS rfl
  have gl__law_less : Gl X "_law_less" := gl_of eS rfl
  exact (js_cons (js_setLc false (i := 3) (own' := [("_law_plane_here", 14)]) (by decide) hc hN n3 (by rw [eS]; rfl) (sw_true (by rw [eS]; rfl) (by rw [eS]; rfl) rfl (by decide +kernel)) (ji_any (je_v v0)) (blk_of eN eS (own := [("_law_plane_here", 14)]) (by decide +kernel)) (fun s H C cl fp => (jg_of (pg_name (i := 14) hN n14 (by first | exact .inl rfl | exact .inr rfl)))) (fun s H C cl fp => jts_nil) (fun s H C cl fp => (je_cg G__law_line hr (by rfl) (ja_cons (je_var 14 n14 (hv := (by first | exact Or.inl rfl | exact Or.inr (Or.inl rfl) | exact vis_free (by decide +kernel)))) (ja_cons (je_var 1 n1 (hv := vis_free (by decide +kernel))) (ja_cons (je_var 2 n2 (hv := vis_free (by decide +kernel))) ja_nil))))))
  (js_cons (js_setLc true (i := 4) (own' := [("_law_line_here", 15)]) (by decide) hc hN n4 (by rw [eS]; rfl) (sw_true (by rw [eS]; rfl) (by rw [eS]; rfl) rfl (by decide +kernel)) (ji_any (je_v v3)) (blk_of eN eS (own := [("_law_line_here", 15)]) (by decide +kernel)) (fun s H C cl fp => (jg_of (pg_name (i := 15) hN n15 (by first | exact .inl rfl | exact .inr rfl)))) (fun s H C cl fp => (jts_one (jt_cmp (o_eq hr) (je_ix (je_ix (je_var 15 n15 (hv := (by first | exact Or.inl rfl | exact Or.inr (Or.inl rfl) | exact vis_free (by decide +kernel)))) je_int) je_int) je_int (nomark _)))) (fun s H C cl fp => (je_var 15 n15 (hv := (by first | exact Or.inl rfl | exact Or.inr (Or.inl rfl) | exact vis_free (by decide +kernel))))))
  (js_cons (js_for hxe hc (ji_any (je_lc false (own' := [("_law_line_here", 15)]) (by decide) hc hN (ji_any (je_v v3)) (blk_of eN eS (own := [("_law_line_here", 15)]) (by decide +kernel)) (fun s H C cl fp => (jg_of (pg_name (i := 15) hN n15 (by first | exact .inl rfl | exact .inr rfl)))) (fun s H C cl fp => (jts_one (jt_cmp o_gt (je_ix (je_ix (je_var 15 n15 (hv := (by first | exact Or.inl rfl | exact Or.inr (Or.inl rfl) | exact vis_free (by decide +kernel)))) je_int) je_int) je_int (nomark _)))) (fun s H C cl fp => (je_var 15 n15 (hv := (by first | exact Or.inl rfl | exact Or.inr (Or.inl rfl) | exact vis_free (by decide +kernel))))))) (jg_of (pg_v hN v5))
  (js_one (js_for hxe hc (ji_any (je_lc false (own' := [("_law_line_here", 15)]) (by decide) hc hN (ji_any (je_v v3)) (blk_of eN eS (own := [("_law_line_here", 15)]) (by decide +kernel)) (fun s H C cl fp => (jg_of (pg_name (i := 15) hN n15 (by first | exact .inl rfl | exact .inr rfl)))) (fun s H C cl fp => (jts_one (jt_cmp o_lt (je_ix (je_ix (je_var 15 n15 (hv := (by first | exact Or.inl rfl | exact Or.inr (Or.inl rfl) | exact vis_free (by decide +kernel)))) je_int) je_int) je_int (nomark _)))) (fun s H C cl fp => (je_var 15 n15 (hv := (by first | exact Or.inl rfl | exact Or.inr (Or.inl rfl) | exact vis_free (by decide +kernel))))))) (jg_of (pg_v hN v6))
  (js_cons (js_st hN v7 (je_cg G__law_neg hr gl__law_neg (ja_cons (je_cg G__law_div hr gl__law_div (ja_cons (je_ix (je_v v5) je_int) (ja_cons (je_ix (je_v v6) je_int) ja_nil))) ja_nil)))
  (js_cons (js_st hN v8 (je_cg G__law_add hr gl__law_add (ja_cons (je_ix (je_v v5) je_int) (ja_cons (je_cg G__law_mul hr gl__law_mul (ja_cons (je_v v7) (ja_cons (je_ix (je_v v6) je_int) ja_nil))) ja_nil))))
  (js_one (js_do (je_meth PySem.F.slot_list_append PySem.F.type_list_append m_append (je_v v4) (ja_cons (je_tup (ja_cons (je_v v8) (ja_cons (je_tup (ja_cons je_int (ja_cons je_int ja_nil))) (ja_cons (je_cg G__law_add hr gl__law_add (ja_cons (je_ix (je_v v5) je_int) (ja_cons (je_cg G__law_mul hr gl__law_mul (ja_cons (je_v v7) (ja_cons (je_ix (je_v v6) je_int) ja_nil))) ja_nil))) ja_nil)))) ja_nil)))))))))
  (js_cons (js_st hN v9 (je_lstO ja_nil))
  (js_cons (js_st hN v10 (je_lstO ja_nil))
  (js_cons (js_for hxe hc (ji_any (je_v v4)) (jg_of (pg_v hN v11))
  (js_cons (js_if (jw_pt (jw_and (jt_cmp (o_eq hr) (je_ix (je_ix (je_v v11) je_int) je_int) je_int (nomark _)) (jw_and1 (jt_cmp o_lt (je_ix (je_ix (je_v v11) je_int) je_int) je_int (nomark _)))))
  (js_one (js_ret (je_tup ja_nil)))
  js_nil)
  (js_cons (js_if (jt_cmp o_gt (je_ix (je_ix (je_v v11) je_int) je_int) je_int (nomark _))
  (js_one (js_do (je_meth PySem.F.slot_list_append PySem.F.type_list_append m_append (je_v v10) (ja_cons (je_cg G__law_div hr gl__law_div (ja_cons (je_ix (je_v v11) je_int) (ja_cons (je_ix (je_v v11) je_int) ja_nil))) ja_nil))))
  js_nil)
  (js_one (js_if (jt_cmp o_lt (je_ix (je_ix (je_v v11) je_int) je_int) je_int (nomark _))
  (js_one (js_do (je_meth PySem.F.slot_list_append PySem.F.type_list_append m_append (je_v v9) (ja_cons (je_cg G__law_div hr gl__law_div (ja_cons (je_ix (je_v v11) je_int) (ja_cons (je_ix (je_v v11) je_int) ja_nil))) ja_nil))))
  js_nil)))))
  (js_cons (js_st hN v12 (je_cg G__law_greatest hr gl__law_greatest (ja_cons (je_f v9) ja_nil)))
  (js_cons (js_st hN v13 (je_cg G__law_least hr gl__law_least (ja_cons (je_f v10) ja_nil)))
  (js_cons (js_if (jw_pt (jw_and (jt_notN (je_v v12)) (jw_and (jt_notN (je_v v13)) (jw_and1 (jt_tru (je_cg G__law_less hr gl__law_less (ja_cons (je_v v13) (ja_cons (je_v v12) ja_nil))))))))
  (js_one (js_ret (je_tup ja_nil)))
  js_nil)
  (js_one (js_ret (je_tup (ja_cons (je_v v12) (ja_cons (je_v v13) ja_nil))))))))))))))
theorem g__law_bounds (KX : K.In base) (GX : base.Ns mainGlobals mg) (c : He.SaysD fa fn K) (hxb : xb K = true) (hns : BaseOk K mg base) (htr : P.given.tree = none) : FnG P w K mg base "_law_bounds" 5 PG.sp__law_bounds [] := by
  obtain ⟨fd, F⟩ := c.def_ 48 (d := dd__law_bounds) rfl
  unfold PG.sp__law_bounds
  exact mkG (N := (["_law_planes_here", "_law_p", "_law_q", "_law_lines", "_law_rows", "_law_one", "_law_other", "_law_share", "_law_top", "_law_lower", "_law_upper", "_law_row_here", "_law_least_here", "_law_most", "_law_plane_here", "_law_line_here"] : List Str)) false hns htr F (He.glo_ok KX GX (c.fact 48 (f := .glo "_law_bounds") rfl)) sc__law_bounds rfl rfl (fun _ _ _ _ _ _ us hl => match us, hl with | [_, _, _], _ => rfl) (fun X cdv A outer s H E hX hcd am => by subst hX; exact d__law_bounds am sc__law_bounds.nd rfl PassesOwn.never rfl rfl (fun _ => rfl) (g__law_line (P := P) (w := w) KX GX c hxb hns htr) (g__law_div (P := P) (w := w) KX GX c hxb hns htr) (g__law_neg (P := P) (w := w) KX GX c hxb hns htr) (g__law_mul (P := P) (w := w) KX GX c hxb hns htr) (g__law_add (P := P) (w := w) KX GX c hxb hns htr) (g__law_greatest (P := P) (w := w) KX GX c hxb hns htr) (g__law_least (P := P) (w := w) KX GX c hxb hns htr) (g__law_less (P := P) (w := w) KX GX c hxb hns htr))

theorem sc__law_empty : FnScope (["_law_planes_here"] : List Str) (["_law_planes_here"] : List Str) (defScope s__law_empty) := ⟨rfl, rfl, rfl, by decide +kernel, rfl, by decide +kernel, by decide +kernel⟩
theorem d__law_empty {X : Cx} (am : Amb 5 X) (hN : X.N.Nodup) (hc : X.calm = true) (hxe : PassesOwn (model X.prog X.w) X.A X.env X.xe) (eN : X.N = (["_law_planes_here"] : List Str)) (eS : X.env.scope = defScope s__law_empty) (hfn : ∀ x, X.fn x = true) (G__law_bounds : FnG X.prog X.w X.K X.mg X.base "_law_bounds" 5 PG.sp__law_bounds []) : JSs X (defBody s__law_empty) PG.w__law_empty := by
  have hr := am.rm
  have n0 : X.N[0]? = some ("_law_planes_here" : Str) := by rw [eN]; rfl
  have v0 : SlotOk X 0 "_law_planes_here" := slot_of eS eN hfn rfl (.inl rfl)
  have gl__law_bounds : Gl X "_law_bounds" := gl_of eS rfl
  exact (js_one (js_ret (je_cmp (o_eq hr) (je_cg G__law_bounds hr gl__law_bounds (ja_cons (je_v v0) (ja_cons (je_tup (ja_cons je_int (ja_cons je_int ja_nil))) (ja_cons (je_tup (ja_cons je_int (ja_cons je_int ja_nil))) ja_nil)))) (je_tup ja_nil) (nomark _))))
theorem g__law_empty (KX : K.In base) (GX : base.Ns mainGlobals mg) (c : He.SaysD fa fn K) (hxb : xb K = true) (hns : BaseOk K mg base) (htr : P.given.tree = none) : FnG P w K mg base "_law_empty" 6 PG.sp__law_empty [] := by
  obtain ⟨fd, F⟩ := c.def_ 49 (d := dd__law_empty) rfl
  unfold PG.sp__law_empty
  exact mkG (N := (["_law_planes_here"] : List Str)) false hns htr F (He.glo_ok KX GX (c.fact 49 (f := .glo "_law_empty") rfl)) sc__law_empty rfl rfl (fun _ _ _ _ _ _ us hl => match us, hl with | [_], _ => rfl) (fun X cdv A outer s H E hX hcd am => by subst hX; exact d__law_empty am sc__law_empty.nd rfl PassesOwn.never rfl rfl (fun _ => rfl) (g__law_bounds (P := P) (w := w) KX GX c hxb hns htr))

theorem sc__law_near : FnScope (["_law_bounds_here"] : List Str) (["_law_bounds_here"] : List Str) (defScope s__law_near) := ⟨rfl, rfl, rfl, by decide +kernel, rfl, by decide +kernel, by decide +kernel⟩
theorem d__law_near {X : Cx} (am : Amb 0 X) (hN : X.N.Nodup) (hc : X.calm = true) (hxe : PassesOwn (model X.prog X.w) X.A X.env X.xe) (eN : X.N = (["_law_bounds_here"] : List Str)) (eS : X.env.scope = defScope s__law_near) (hfn : ∀ x, X.fn x = true) : JSs X (defBody s__law_near) PG.w__law_near_2 := by
  have hr := am.rm
  have n0 : X.N[0]? = some ("_law_bounds_here" : Str) := by rw [eN]; rfl
  have v0 : SlotOk X 0 "_law_bounds_here" := slot_of eS eN hfn rfl (.inl rfl)
  exact (js_cons (js_if (jw_pt (jw_and (jt_notN (je_ix (je_v v0) je_int)) (jw_and1 (jt_cmp o_gt (je_ix (je_ix (je_v v0) je_int) je_int) je_int (nomark _)))))
  (js_one (js_ret (je_ix (je_v v0) je_int)))
  js_nil)
  (js_cons (js_if (jw_pt (jw_and (jt_notN (je_ix (je_v v0) je_int)) (jw_and1 (jt_cmp o_lt (je_ix (je_ix (je_v v0) je_int) je_int) je_int (nomark _)))))
  (js_one (js_ret (je_ix (je_v v0) je_int)))
  js_nil)
  (js_one (js_ret (je_tup (ja_cons je_int (ja_cons je_int ja_nil)))))))
theorem g__law_near (KX : K.In base) (GX : base.Ns mainGlobals mg) (c : He.SaysD fa fn K) (hxb : xb K = true) (hns : BaseOk K mg base) (htr : P.given.tree = none) : FnG P w K mg base "_law_near" 1 PG.sp__law_near_2 [] := by
  obtain ⟨fd, F⟩ := c.def_ 50 (d := dd__law_near) rfl
  unfold PG.sp__law_near_2
  exact mkG (N := (["_law_bounds_here"] : List Str)) false hns htr F (He.glo_ok KX GX (c.fact 50 (f := .glo "_law_near") rfl)) sc__law_near rfl rfl (fun _ _ _ _ _ _ us hl => match us, hl with | [_], _ => rfl) (fun X cdv A outer s H E hX hcd am => by subst hX; exact d__law_near am sc__law_near.nd rfl PassesOwn.never rfl rfl (fun _ => rfl))

theorem sc__law_sample : FnScope (["_law_planes_here", "_law_height", "_law_top"] : List Str) (["_law_planes_here"] : List Str) (defScope s__law_sample) := ⟨rfl, rfl, rfl, by decide +kernel, rfl, by decide +kernel, by decide +kernel⟩
theorem d__law_sample {X : Cx} (am : Amb 5 X) (hN : X.N.Nodup) (hc : X.calm = true) (hxe : PassesOwn (model X.prog X.w) X.A X.env X.xe) (eN : X.N = (["_law_planes_here", "_law_height", "_law_top"] : List Str)) (eS : X.env.scope = defScope s__law_sample) (hfn : ∀ x, X.fn x = true) (G__law_bounds : FnG X.prog X.w X.K X.mg X.base "_law_bounds" 5 PG.sp__law_bounds []) (G__law_near : FnG X.prog X.w X.K X.mg X.base "_law_near" 1 PG.sp__law_near_2 []) (G__law_neg : FnG X.prog X.w X.K X.mg X.base "_law_neg" 1 PG.sp__law_neg []) (G__law_plane : FnG X.prog X.w X.K X.mg X.base "_law_plane" 1 PG.sp__law_plane_3 []) : JSs X (defBody s__law_sample) PG.w__law_sample := by
  have hr := am.rm
  have n0 : X.N[0]? = some ("_law_planes_here" : Str) := by rw [eN]; rfl
  have v0 : SlotOk X 0 "_law_planes_here" := slot_of eS eN hfn rfl (.inl rfl)
  have n1 : X.N[1]? = some ("_law_height" : Str) := by rw [eN]; rfl
  have v1 : SlotOk X 1 "_law_height" := slot_of eS eN hfn rfl (.inl rfl)
  have n2 : X.N[2]? = some ("_law_top" : Str) := by rw [eN]; rfl
  have v2 : SlotOk X 2 "_law_top" := slot_of eS eN hfn rfl (.inl rfl)
  have gl__law_bounds : Gl X "_law_bounds" := gl_of eS rfl
  have gl__law_near : Gl X "_law_near" := gl_of eS rfl
  have gl__law_neg : Gl X "_law_neg" := gl_of eS rfl
  have gl__law_plane : Gl X "_law_plane" := gl_of eS rfl
  exact (js_cons (js_st hN v1 (je_cg G__law_near hr gl__law_near (ja_cons (je_cg G__law_bounds hr gl__law_bounds (ja_cons (je_v v0) (ja_cons (je_tup (ja_cons je_int (ja_cons je_int ja_nil))) (ja_cons (je_tup (ja_cons je_int (ja_cons je_int ja_nil))) ja_nil)))) ja_nil)))
  (js_cons (js_st hN v2 (je_lst (ja_cons (je_cg G__law_plane hr gl__law_plane (ja_cons (je_tup (ja_cons je_int (ja_cons je_int ja_nil))) (ja_cons (je_tup (ja_cons je_int (ja_cons je_int ja_nil))) (ja_cons (je_v v1) ja_nil)))) (ja_cons (je_cg G__law_plane hr gl__law_plane (ja_cons (je_tup (ja_cons (je_neg je_int) (ja_cons je_int ja_nil))) (ja_cons (je_tup (ja_cons je_int (ja_cons je_int ja_nil))) (ja_cons (je_cg G__law_neg hr gl__law_neg (ja_cons (je_v v1) ja_nil)) ja_nil)))) ja_nil))))
  (js_one (js_ret (je_tup (ja_cons (je_v v1) (ja_cons (je_cg G__law_near hr gl__law_near (ja_cons (je_cg G__law_bounds hr gl__law_bounds (ja_cons (je_op o_addA (je_v v0) (je_v v2)) (ja_cons (je_tup (ja_cons je_int (ja_cons je_int ja_nil))) (ja_cons (je_tup (ja_cons je_int (ja_cons je_int ja_nil))) ja_nil)))) ja_nil)) ja_nil)))))))
theorem g__law_sample (KX : K.In base) (GX : base.Ns mainGlobals mg) (c : He.SaysD fa fn K) (hxb : xb K = true) (hns : BaseOk K mg base) (htr : P.given.tree = none) : FnG P w K mg base "_law_sample" 6 PG.sp__law_sample [] := by
  obtain ⟨fd, F⟩ := c.def_ 51 (d := dd__law_sample) rfl
  unfold PG.sp__law_sample
  exact mkG (N := (["_law_planes_here", "_law_height", "_law_top"] : List Str)) false hns htr F (He.glo_ok KX GX (c.fact 51 (f := .glo "_law_sample") rfl)) sc__law_sample rfl rfl (fun _ _ _ _ _ _ us hl => match us, hl with | [_], _ => rfl) (fun X cdv A outer s H E hX hcd am => by subst hX; exact d__law_sample am sc__law_sample.nd rfl PassesOwn.never rfl rfl (fun _ => rfl) (g__law_bounds (P := P) (w := w) KX GX c hxb hns htr) (g__law_near (P := P) (w := w) KX GX c hxb hns htr) (g__law_neg (P := P) (w := w) KX GX c hxb hns htr) (g__law_plane (P := P) (w := w) KX GX c hxb hns htr))

theorem sc__law_due : FnScope (["_law_train_here", "_law_rays", "_law_found", "_law_place", "_law_heights", "_law_ray_here"] : List Str) (["_law_train_here", "_law_rays"] : List Str) (defScope s__law_due) := ⟨rfl, rfl, rfl, by decide +kernel, rfl, by decide +kernel, by decide +kernel⟩
theorem d__law_due {X : Cx} (am : Amb 5 X) (hN : X.N.Nodup) (hc : X.calm = true) (hxe : PassesOwn (model X.prog X.w) X.A X.env X.xe) (eN : X.N = (["_law_train_here", "_law_rays", "_law_found", "_law_place", "_law_heights", "_law_ray_here"] : List Str)) (eS : X.env.scope = defScope s__law_due) (hfn : ∀ x, X.fn x = true) (fr_range : X.mg "range" = none) (fr_len : X.mg "len" = none) (G__law_out : FnG X.prog X.w X.K X.mg X.base "_law_out" 5 PG.sp__law_out_2 []) (G__law_least : FnG X.prog X.w X.K X.mg X.base "_law_least" 2 PG.sp__law_least_3 []) (G__law_sub : FnG X.prog X.w X.K X.mg X.base "_law_sub" 3 PG.sp__law_sub_3 []) (G__law_greatest : FnG X.prog X.w X.K X.mg X.base "_law_greatest" 2 PG.sp__law_greatest []) : JSs X (defBody s__law_due) PG.w__law_due_5 := by
  have hr := am.rm
  have n0 : X.N[0]? = some ("_law_train_here" : Str) := by rw [eN]; rfl
  have v0 : SlotOk X 0 "_law_train_here" := slot_of eS eN hfn rfl (.inr rfl)
  have n1 : X.N[1]? = some ("_law_rays" : Str) := by rw [eN]; rfl
  have v1 : SlotOk X 1 "_law_rays" := slot_of eS eN hfn rfl (.inl rfl)
  have n2 : X.N[2]? = some ("_law_found" : Str) := by rw [eN]; rfl
  have v2 : SlotOk X 2 "_law_found" := slot_of eS eN hfn rfl (.inl rfl)
  have n3 : X.N[3]? = some ("_law_place" : Str) := by rw [eN]; rfl
  have v3 : SlotOk X 3 "_law_place" := slot_of eS eN hfn rfl (.inr rfl)
  have n4 : X.N[4]? = some ("_law_heights" : Str) := by rw [eN]; rfl
  have v4 : SlotOk X 4 "_law_heights" := slot_of eS eN hfn rfl (.inl rfl)
  have n5 : X.N[5]? = some ("_law_ray_here" : Str) := by rw [eN]; rfl
  have gl_range : Gl X "range" := gl_of eS rfl
  have gl_len : Gl X "len" := gl_of eS rfl
  have gl__law_least : Gl X "_law_least" := gl_of eS rfl
  have gl__law_sub : Gl X "_law_sub" := gl_of eS rfl
  have gl__law_greatest : Gl X "_law_greatest" := gl_of eS rfl
  exact (js_cons (js_st hN v2 (je_lstO ja_nil))
  (js_cons (js_for hxe hc (ji_range1 gl_range fr_range (ja_cons (je_bi b_len gl_len fr_len RT.boot_len (ja_cons (je_v v0) ja_nil)) ja_nil)) (jg_of (pg_v hN v3))
  (js_one (js_if (jt_cmp (o_eq hr) (je_ix (je_ix (je_v v0) (je_v v3)) je_int) je_str (nomark _))
  (js_cons (js_setLc false (i := 4) (own' := [("_law_ray_here", 5)]) (by decide) hc hN n4 (by rw [eS]; rfl) (sw_true (by rw [eS]; rfl) (by rw [eS]; rfl) rfl (by decide +kernel)) (ji_any (je_v v1)) (blk_of eN eS (own := [("_law_ray_here", 5)]) (by decide +kernel)) (fun s H C cl fp => (jg_of (pg_name (i := 5) hN n5 (by first | exact .inl rfl | exact .inr rfl)))) (fun s H C cl fp => jts_nil) (fun s H C cl fp => (je_ix (je_cg G__law_out hr (by rfl) (ja_cons (je_sl false (je_var 0 n0 (hv := vis_free (by decide +kernel))) jo_none (jo_some (je_var 3 n3 (hv := vis_free (by decide +kernel))))) (ja_cons (je_var 5 n5 (hv := (by first | exact Or.inl rfl | exact Or.inr (Or.inl rfl) | exact vis_free (by decide +kernel)))) ja_nil))) je_int)))
  (js_cons (js_if (jt_notN (je_ix (je_ix (je_v v0) (je_v v3)) je_int))
  (js_one (js_do (je_meth PySem.F.slot_list_append PySem.F.type_list_append m_append (je_v v2) (ja_cons (je_tup (ja_cons (je_tup (ja_cons (je_v v3) (ja_cons je_str ja_nil))) (ja_cons (je_cg G__law_sub hr gl__law_sub (ja_cons (je_cg G__law_least hr gl__law_least (ja_cons (je_v v4) ja_nil)) (ja_cons (je_ix (je_ix (je_v v0) (je_v v3)) je_int) ja_nil))) ja_nil))) ja_nil))))
  js_nil)
  (js_one (js_if (jt_notN (je_ix (je_ix (je_v v0) (je_v v3)) je_int))
  (js_one (js_do (je_meth PySem.F.slot_list_append PySem.F.type_list_append m_append (je_v v2) (ja_cons (je_tup (ja_cons (je_tup (ja_cons (je_v v3) (ja_cons je_str ja_nil))) (ja_cons (je_cg G__law_sub hr gl__law_sub (ja_cons (je_ix (je_ix (je_v v0) (je_v v3)) je_int) (ja_cons (je_cg G__law_greatest hr gl__law_greatest (ja_cons (je_v v4) ja_nil)) ja_nil))) ja_nil))) ja_nil))))
  js_nil))))
  js_nil)))
  (js_one (js_ret (je_v v2)))))
theorem g__law_due (KX : K.In base) (GX : base.Ns mainGlobals mg) (c : He.SaysD fa fn K) (hxb : xb K = true) (hns : BaseOk K mg base) (htr : P.given.tree = none) : FnG P w K mg base "_law_due" 6 PG.sp__law_due_5 [] := by
  obtain ⟨fd, F⟩ := c.def_ 52 (d := dd__law_due) rfl
  unfold PG.sp__law_due_5
  exact mkG (N := (["_law_train_here", "_law_rays", "_law_found", "_law_place", "_law_heights", "_law_ray_here"] : List Str)) false hns htr F (He.glo_ok KX GX (c.fact 52 (f := .glo "_law_due") rfl)) sc__law_due rfl rfl (fun _ _ _ _ _ _ us hl => match us, hl with | [_, _], _ => rfl) (fun X cdv A outer s H E hX hcd am => by subst hX; exact d__law_due am sc__law_due.nd rfl PassesOwn.never rfl rfl (fun _ => rfl) (He.free_ok KX GX (c.fact 58 (f := .free "range") rfl)) (He.free_ok KX GX (c.fact 57 (f := .free "len") rfl)) (g__law_out (P := P) (w := w) KX GX c hxb hns htr) (g__law_least (P := P) (w := w) KX GX c hxb hns htr) (g__law_sub (P := P) (w := w) KX GX c hxb hns htr) (g__law_greatest (P := P) (w := w) KX GX c hxb hns htr))

theorem d__law_refuses_try {X : Cx} (am : Amb 8 X) (hN : X.N.Nodup) (hc : X.calm = true) (hxe : PassesOwn (model X.prog X.w) X.A X.env X.xe) (eN : X.N = (["_law_train_here", "_law_e"] : List Str)) (eS : X.env.scope = defScope s__law_refuses) (hfn : ∀ x, X.fn x = true) (fr_isinstance : X.mg "isinstance" = none) (fr_ValueError : X.mg "ValueError" = none) (G_clearances : FnG X.prog X.w X.K X.mg X.base "clearances" 8 PG.sp_clearances []) : JSs X (tryBody (defBody s__law_refuses)) (dDo (dCall PG.sp_clearances [] (dCons (dVar 0) (dCons (dLst dNil) dNil)))) := by
  have hr := am.rm
  have n0 : X.N[0]? = some ("_law_train_here" : Str) := by rw [eN]; rfl
  have v0 : SlotOk X 0 "_law_train_here" := slot_of eS eN hfn rfl (.inl rfl)
  have n1 : X.N[1]? = some ("_law_e" : Str) := by rw [eN]; rfl
  have v1 : SlotOk X 1 "_law_e" := slot_of eS eN hfn rfl (.inl rfl)
  have gl_clearances : Gl X "clearances" := gl_of eS rfl
  have gl_isinstance : Gl X "isinstance" := gl_of eS rfl
  have gl_NoRays : Gl X "NoRays" := gl_of eS rfl
  have gl_ValueError : Gl X "ValueError" := gl_of eS rfl
  have gl_CannotShift : Gl X "CannotShift" := gl_of eS rfl
  have gl_NoSuchElement : Gl X "NoSuchElement" := gl_of eS rfl
  have gl_RaytrainError : Gl X "RaytrainError" := gl_of eS rfl
  exact (js_one (js_do (je_cg G_clearances hr gl_clearances (ja_cons (je_v v0) (ja_cons (je_lst ja_nil) ja_nil)))))
theorem d__law_refuses_rx {X : Cx} {Wx : WX} (tk : Takes X Wx) (am : Amb 8 X) (hN : X.N.Nodup) (hc : X.calm = true) (hxe : PassesOwn (model X.prog X.w) X.A X.env X.xe) (eN : X.N = (["_law_train_here", "_law_e"] : List Str)) (eS : X.env.scope = defScope s__law_refuses) (hfn : ∀ x, X.fn x = true) (fr_isinstance : X.mg "isinstance" = none) (fr_ValueError : X.mg "ValueError" = none) (G_clearances : FnG X.prog X.w X.K X.mg X.base "clearances" 8 PG.sp_clearances []) (GX : FnX X.prog X.w X.K X.mg X.base "clearances" 8 PG.sp_x_clearances) : JXs X Wx (tryBody (defBody s__law_refuses)) (dCallX PG.sp_x_clearances (dCons (dVar 0) (dCons (dLst dNil) dNil))) := by
  have hr := am.rm
  have n0 : X.N[0]? = some ("_law_train_here" : Str) := by rw [eN]; rfl
  have v0 : SlotOk X 0 "_law_train_here" := slot_of eS eN hfn rfl (.inl rfl)
  have n1 : X.N[1]? = some ("_law_e" : Str) := by rw [eN]; rfl
  have v1 : SlotOk X 1 "_law_e" := slot_of eS eN hfn rfl (.inl rfl)
  have gl_clearances : Gl X "clearances" := gl_of eS rfl
  have gl_isinstance : Gl X "isinstance" := gl_of eS rfl
  have gl_NoRays : Gl X "NoRays" := gl_of eS rfl
  have gl_ValueError : Gl X "ValueError" := gl_of eS rfl
  have gl_CannotShift : Gl X "CannotShift" := gl_of eS rfl
  have gl_NoSuchElement : Gl X "NoSuchElement" := gl_of eS rfl
  have gl_RaytrainError : Gl X "RaytrainError" := gl_of eS rfl
  exact (jx_do GX hr gl_clearances tk (ja_cons (je_v v0) (ja_cons (je_lst ja_nil) ja_nil)))
theorem sc__law_refuses : FnScope (["_law_train_here", "_law_e"] : List Str) (["_law_train_here"] : List Str) (defScope s__law_refuses) := ⟨rfl, rfl, rfl, by decide +kernel, rfl, by decide +kernel, by decide +kernel⟩
theorem d__law_refuses {X : Cx} (am : Amb 8 X) (hN : X.N.Nodup) (hc : X.calm = true) (hxe : PassesOwn (model X.prog X.w) X.A X.env X.xe) (eN : X.N = (["_law_train_here", "_law_e"] : List Str)) (eS : X.env.scope = defScope s__law_refuses) (hfn : ∀ x, X.fn x = true) (fr_isinstance : X.mg "isinstance" = none) (fr_ValueError : X.mg "ValueError" = none) (G_clearances : FnG X.prog X.w X.K X.mg X.base "clearances" 8 PG.sp_clearances []) (GX : FnX X.prog X.w X.K X.mg X.base "clearances" 8 PG.sp_x_clearances) (E_excB_NoRays : ExcG X.K X.mg "NoRays") (E_exmB_NoRays_RaytrainError : ExmG X.K X.mg "NoRays" "RaytrainError") (E_isiB_NoRays_NoRays_True : IsiG X.K X.mg "NoRays" "NoRays" true) (E_isiT_NoRays_ValueError_True : IsiTG X.K "NoRays" "ValueError" true) (E_isiB_NoRays_CannotShift_False : IsiG X.K X.mg "NoRays" "CannotShift" false) (E_isiB_NoRays_NoSuchElement_False : IsiG X.K X.mg "NoRays" "NoSuchElement" false) (hsk : X.stack = X.env :: X.outer) (hfl : X.env.frame = some X.env.locals) : JSs X (defBody s__law_refuses) PG.w__law_refuses := by
  have hr := am.rm
  have n0 : X.N[0]? = some ("_law_train_here" : Str) := by rw [eN]; rfl
  have v0 : SlotOk X 0 "_law_train_here" := slot_of eS eN hfn rfl (.inl rfl)
  have n1 : X.N[1]? = some ("_law_e" : Str) := by rw [eN]; rfl
  have v1 : SlotOk X 1 "_law_e" := slot_of eS eN hfn rfl (.inl rfl)
  have gl_clearances : Gl X "clearances" := gl_of eS rfl
  have gl_isinstance : Gl X "isinstance" := gl_of eS rfl
  have gl_NoRays : Gl X "NoRays" := gl_of eS rfl
  have gl_ValueError : Gl X "ValueError" := gl_of eS rfl
  have gl_CannotShift : Gl X "CannotShift" := gl_of eS rfl
  have gl_NoSuchElement : Gl X "NoSuchElement" := gl_of eS rfl
  have gl_RaytrainError : Gl X "RaytrainError" := gl_of eS rfl
  exact (js_cons (js_try (bn := (dDo (dCall PG.sp_clearances [] (dCons (dVar 0) (dCons (dLst dNil) dNil))))) (bx := (dCallX PG.sp_x_clearances (dCons (dVar 0) (dCons (dLst dNil) dNil)))) (i := 1) (hs := [(("NoRays" : Str), .bl true)]) hsk hfl hN n1 (by show X.env.scope.names.lookup _ = _; rw [eS]; rfl) gl_RaytrainError (Exists.choose_spec E_exmB_NoRays_RaytrainError).1 (by decide) rfl (fun x d hm v hv => by
    cases List.mem_singleton.mp hm
    exact (Exists.choose_spec E_exmB_NoRays_RaytrainError).2 v hv) (fun pn xe po => d__law_refuses_try (X := X.tr pn xe) ⟨am.rm, am.py, am.tb⟩ hN hc po eN eS hfn fr_isinstance fr_ValueError G_clearances) (fun Wx pn xe tk po => d__law_refuses_rx (X := X.tr pn xe) tk ⟨am.rm, am.py, am.tb⟩ hN hc po eN eS hfn fr_isinstance fr_ValueError G_clearances GX) (fun a oe pn x d v hm hv hz hf => by
    cases List.mem_singleton.mp hm
    obtain ⟨D, ef, _⟩ := E_excB_NoRays
    have e := Option.some.inj (Option.some.inj (ef.at_.symm.trans hv))
    subst e
    exact (cs_ret (ce_and (ce_isi ef.cc hz hf ((Exists.choose_spec E_isiB_NoRays_NoRays_True).2 _ hv) n1 (by show X.env.scope.names.lookup _ = _ ∨ _; rw [eS]; exact .inl rfl) gl_isinstance fr_isinstance gl_NoRays (Exists.choose_spec E_isiB_NoRays_NoRays_True).1 (vy := .ref _) rfl (fun _ h => h)) (ce_and (ce_isiT ef.cc hz hf (E_isiT_NoRays_ValueError_True _ hv) n1 (by show X.env.scope.names.lookup _ = _ ∨ _; rw [eS]; exact .inl rfl) gl_isinstance fr_isinstance gl_ValueError fr_ValueError RT.boot_ValueError) (ce_and (ce_not (ce_isi ef.cc hz hf ((Exists.choose_spec E_isiB_NoRays_CannotShift_False).2 _ hv) n1 (by show X.env.scope.names.lookup _ = _ ∨ _; rw [eS]; exact .inl rfl) gl_isinstance fr_isinstance gl_CannotShift (Exists.choose_spec E_isiB_NoRays_CannotShift_False).1 (vy := .ref _) rfl (fun _ h => h))) (ce_one (ce_not (ce_isi ef.cc hz hf ((Exists.choose_spec E_isiB_NoRays_NoSuchElement_False).2 _ hv) n1 (by show X.env.scope.names.lookup _ = _ ∨ _; rw [eS]; exact .inl rfl) gl_isinstance fr_isinstance gl_NoSuchElement (Exists.choose_spec E_isiB_NoRays_NoSuchElement_False).1 (vy := .ref _) rfl (fun _ h => h))))))))))
  (js_one (js_ret je_bl)))
theorem g__law_refuses (KX : K.In base) (GX : base.Ns mainGlobals mg) (c : He.SaysD fa fn K) (hxb : xb K = true) (hns : BaseOk K mg base) (htr : P.given.tree = none) : FnG P w K mg base "_law_refuses" 9 PG.sp__law_refuses [] := by
  obtain ⟨fd, F⟩ := c.def_ 53 (d := dd__law_refuses) rfl
  unfold PG.sp__law_refuses
  exact mkG (N := (["_law_train_here", "_law_e"] : List Str)) false hns htr F (He.glo_ok KX GX (c.fact 53 (f := .glo "_law_refuses") rfl)) sc__law_refuses rfl rfl (fun _ _ _ _ _ _ us hl => match us, hl with | [_], _ => rfl) (fun X cdv A outer s H E hX hcd am => by subst hX; exact d__law_refuses am sc__law_refuses.nd rfl PassesOwn.never rfl rfl (fun _ => rfl) (He.free_ok KX GX (c.fact 61 (f := .free "isinstance") rfl)) (He.free_ok KX GX (c.fact 62 (f := .free "ValueError") rfl)) (g_clearances (P := P) (w := w) KX GX c hxb hns htr) (gx_clearances (P := P) (w := w) KX GX c hxb hns htr) (e_excB_NoRays KX GX hxb) (e_exmB_NoRays_RaytrainError KX GX hxb) (e_isiB_NoRays_NoRays_True KX GX hxb) (e_isiT_NoRays_ValueError_True KX GX hxb) (e_isiB_NoRays_CannotShift_False KX GX hxb) (e_isiB_NoRays_NoSuchElement_False KX GX hxb) rfl rfl)

theorem sc_law : FnScope (["_law_script", "_law_box_here", "_law_turn", "_law_train_here", "_law_rays", "_law_planes_here", "_law_ray_here", "_law_kept", "_law_told", "_law_blocked", "_law_k", "_law_one", "_law_row_here"] : List Str) (["_law_script"] : List Str) (defScope s_law) := ⟨rfl, rfl, rfl, by decide +kernel, rfl, by decide +kernel, by decide +kernel⟩
theorem d_law {X : Cx} (am : Amb 9 X) (hN : X.N.Nodup) (hc : X.calm = true) (hxe : PassesOwn (model X.prog X.w) X.A X.env X.xe) (eN : X.N = (["_law_script", "_law_box_here", "_law_turn", "_law_train_here", "_law_rays", "_law_planes_here", "_law_ray_here", "_law_kept", "_law_told", "_law_blocked", "_law_k", "_law_one", "_law_row_here"] : List Str)) (eS : X.env.scope = defScope s_law) (hfn : ∀ x, X.fn x = true) (fr_range : X.mg "range" = none) (fr_repr : X.mg "repr" = none) (G__law_box : FnG X.prog X.w X.K X.mg X.base "_law_box" 2 PG.sp__law_box []) (G__law_train : FnG X.prog X.w X.K X.mg X.base "_law_train" 5 PG.sp__law_train_3 []) (G__law_draw : FnG X.prog X.w X.K X.mg X.base "_law_draw" 1 PG.sp__law_draw_2 []) (G__law_ray : FnG X.prog X.w X.K X.mg X.base "_law_ray" 3 PG.sp__law_ray_2 []) (G__law_planes : FnG X.prog X.w X.K X.mg X.base "_law_planes" 8 PG.sp__law_planes_3 []) (G__law_empty : FnG X.prog X.w X.K X.mg X.base "_law_empty" 6 PG.sp__law_empty []) (G__law_sample : FnG X.prog X.w X.K X.mg X.base "_law_sample" 6 PG.sp__law_sample []) (G_clearances : FnG X.prog X.w X.K X.mg X.base "clearances" 8 PG.sp_clearances []) (G__law_due : FnG X.prog X.w X.K X.mg X.base "_law_due" 6 PG.sp__law_due_5 []) (G__law_same : FnG X.prog X.w X.K X.mg X.base "_law_same" 1 PG.sp__law_same []) (G__law_exit : FnG X.prog X.w X.K X.mg X.base "_law_exit" 5 PG.sp__law_exit []) (G__law_refuses : FnG X.prog X.w X.K X.mg X.base "_law_refuses" 9 PG.sp__law_refuses []) : JSs X (defBody s_law) PG.w_law_33 := by
  have hr := am.rm
  have n0 : X.N[0]? = some ("_law_script" : Str) := by rw [eN]; rfl
  have v0 : SlotOk X 0 "_law_script" := slot_of eS eN hfn rfl (.inl rfl)
  have n1 : X.N[1]? = some ("_law_box_here" : Str) := by rw [eN]; rfl
  have v1 : SlotOk X 1 "_law_box_here" := slot_of eS eN hfn rfl (.inr rfl)
  have n2 : X.N[2]? = some ("_law_turn" : Str) := by rw [eN]; rfl
  have v2 : SlotOk X 2 "_law_turn" := slot_of eS eN hfn rfl (.inl rfl)
  have n3 : X.N[3]? = some ("_law_train_here" : Str) := by rw [eN]; rfl
  have v3 : SlotOk X 3 "_law_train_here" := slot_of eS eN hfn rfl (.inr rfl)
  have n4 : X.N[4]? = some ("_law_rays" : Str) := by rw [eN]; rfl
  have v4 : SlotOk X 4 "_law_rays" := slot_of eS eN hfn rfl (.inl rfl)
  have n5 : X.N[5]? = some ("_law_planes_here" : Str) := by rw [eN]; rfl
  have v5 : SlotOk X 5 "_law_planes_here" := slot_of eS eN hfn rfl (.inl rfl)
  have n6 : X.N[6]? = some ("_law_ray_here" : Str) := by rw [eN]; rfl
  have v6 : SlotOk X 6 "_law_ray_here" := slot_of eS eN hfn rfl (.inl rfl)
  have n7 : X.N[7]? = some ("_law_kept" : Str) := by rw [eN]; rfl
  have v7 : SlotOk X 7 "_law_kept" := slot_of eS eN hfn rfl (.inl rfl)
  have n8 : X.N[8]? = some ("_law_told" : Str) := by rw [eN]; rfl
  have v8 : SlotOk X 8 "_law_told" := slot_of eS eN hfn rfl (.inl rfl)
  have n9 : X.N[9]? = some ("_law_blocked" : Str) := by rw [eN]; rfl
  have v9 : SlotOk X 9 "_law_blocked" := slot_of eS eN hfn rfl (.inl rfl)
  have n10 : X.N[10]? = some ("_law_k" : Str) := by rw [eN]; rfl
  have n11 : X.N[11]? = some ("_law_one" : Str) := by rw [eN]; rfl
  have n12 : X.N[12]? = some ("_law_row_here" : Str) := by rw [eN]; rfl
  have gl__law_box : Gl X "_law_box" := gl_of eS rfl
  have gl_range : Gl X "range" := gl_of eS rfl
  have gl__law_train : Gl X "_law_train" := gl_of eS rfl
  have gl__law_draw : Gl X "_law_draw" := gl_of eS rfl
  have gl__law_planes : Gl X "_law_planes" := gl_of eS rfl
  have gl__law_empty : Gl X "_law_empty" := gl_of eS rfl
  have gl__law_sample : Gl X "_law_sample" := gl_of eS rfl
  have gl_repr : Gl X "repr" := gl_of eS rfl
  have gl_clearances : Gl X "clearances" := gl_of eS rfl
  have gl__law_due : Gl X "_law_due" := gl_of eS rfl
  have gl__law_same : Gl X "_law_same" := gl_of eS rfl
  have gl__law_refuses : Gl X "_law_refuses" := gl_of eS rfl
  have gl__law_ray : Gl X "_law_ray" := gl_of eS rfl
  exact (js_cons (js_st hN v1 (je_cg G__law_box hr gl__law_box (ja_cons (je_v v0) (ja_cons je_int (ja_cons je_int ja_nil)))))
  (js_cons (js_for hxe hc (ji_range1 gl_range fr_range (ja_cons je_int ja_nil)) (jg_of (pg_v hN v2))
  (js_cons (js_st hN v3 (je_cg G__law_train hr gl__law_train (ja_cons (je_v v1) (ja_cons je_int ja_nil))))
  (js_cons (js_setLc false (i := 4) (own' := [("_law_k", 10)]) (by decide) hc hN n4 (by rw [eS]; rfl) (sw_true (by rw [eS]; rfl) (by rw [eS]; rfl) rfl (by decide +kernel)) (ji_range1 gl_range fr_range (ja_cons (je_op o_addA je_int (je_cg G__law_draw hr gl__law_draw (ja_cons (je_v v1) (ja_cons je_int ja_nil)))) ja_nil)) (blk_of eN eS (own := [("_law_k", 10)]) (by decide +kernel)) (fun s H C cl fp => (jg_of (pg_name (i := 10) hN n10 (by first | exact .inl rfl | exact .inr rfl)))) (fun s H C cl fp => jts_nil) (fun s H C cl fp => (je_cg G__law_ray hr (by rfl) (ja_cons (je_var 1 n1 (hv := vis_free (by decide +kernel))) ja_nil))))
  (js_cons (js_st hN v5 (je_cg G__law_planes hr gl__law_planes (ja_cons (je_v v3) ja_nil)))
  (js_cons (js_if (jw_pt (jw_and (jt_cmp (o_eq hr) (je_cg G__law_draw hr gl__law_draw (ja_cons (je_v v1) (ja_cons je_int ja_nil))) je_int (nomark _)) (jw_and1 (jt_not (jt_tru (je_cg G__law_empty hr gl__law_empty (ja_cons (je_v v5) ja_nil)))))))
  (js_cons (js_st hN v6 (je_cg G__law_sample hr gl__law_sample (ja_cons (je_v v5) ja_nil)))
  (js_one (js_st hN v4 (je_op o_addA (je_lst (ja_cons (je_v v6) ja_nil)) (je_lc false (own' := [("_law_one", 11)]) (by decide) hc hN (ji_any (je_v v4)) (blk_of eN eS (own := [("_law_one", 11)]) (by decide +kernel)) (fun s H C cl fp => (jg_of (pg_name (i := 11) hN n11 (by first | exact .inl rfl | exact .inr rfl)))) (fun s H C cl fp => (jts_one (jt_cmp (o_eq hr) (je_cg G__law_draw hr (by rfl) (ja_cons (je_var 1 n1 (hv := vis_free (by decide +kernel))) (ja_cons je_int ja_nil))) je_int (nomark _)))) (fun s H C cl fp => (je_var 11 n11 (hv := (by first | exact Or.inl rfl | exact Or.inr (Or.inl rfl) | exact vis_free (by decide +kernel))))))))))
  js_nil)
  (js_cons (js_st hN v7 (je_bi (b_repr hr) gl_repr fr_repr RT.boot_repr (ja_cons (je_tup (ja_cons (je_v v3) (ja_cons (je_v v4) ja_nil))) ja_nil)))
  (js_cons (js_st hN v8 (je_cg G_clearances hr gl_clearances (ja_cons (je_v v3) (ja_cons (je_v v4) ja_nil))))
  (js_cons (js_if (jw_pt (jw_or (jt_not (jt_tru (je_cg G__law_same hr gl__law_same (ja_cons (je_v v8) (ja_cons (je_cg G__law_due hr gl__law_due (ja_cons (je_v v3) (ja_cons (je_v v4) ja_nil))) ja_nil))))) (jw_or1 (jt_cmp o_neT (je_bi (b_repr hr) gl_repr fr_repr RT.boot_repr (ja_cons (je_tup (ja_cons (je_v v3) (ja_cons (je_v v4) ja_nil))) ja_nil)) (je_v v7) (nomark _)))))
  (js_one (js_ret je_bl))
  js_nil)
  (js_cons (js_setLc false (i := 9) (own' := [("_law_ray_here", 6)]) (by decide) hc hN n9 (by rw [eS]; rfl) (sw_true (by rw [eS]; rfl) (by rw [eS]; rfl) rfl (by decide +kernel)) (ji_any (je_v v4)) (blk_of eN eS (own := [("_law_ray_here", 6)]) (by decide +kernel)) (fun s H C cl fp => (jg_of (pg_name (i := 6) hN n6 (by first | exact .inl rfl | exact .inr rfl)))) (fun s H C cl fp => (jts_one (jt_isN (je_cg G__law_exit hr (by rfl) (ja_cons (je_var 3 n3 (hv := vis_free (by decide +kernel))) (ja_cons (je_var 6 n6 (hv := (by first | exact Or.inl rfl | exact Or.inr (Or.inl rfl) | exact vis_free (by decide +kernel)))) ja_nil)))))) (fun s H C cl fp => je_int))
  (js_cons (js_if (jt_cmp (o_ne hr) (je_cmp (o_eq hr) (je_v v9) (je_lst ja_nil) (nomark _)) (je_cmp (o_eq hr) (je_lc false (own' := [("_law_row_here", 12)]) (by decide) hc hN (ji_any (je_v v8)) (blk_of eN eS (own := [("_law_row_here", 12)]) (by decide +kernel)) (fun s H C cl fp => (jg_of (pg_name (i := 12) hN n12 (by first | exact .inl rfl | exact .inr rfl)))) (fun s H C cl fp => (jts_one (jt_cmp o_lt (je_ix (je_ix (je_var 12 n12 (hv := (by first | exact Or.inl rfl | exact Or.inr (Or.inl rfl) | exact vis_free (by decide +kernel)))) je_int) je_int) je_int (nomark _)))) (fun s H C cl fp => je_int)) (je_lst ja_nil) (nomark _)) (nomark _))
  (js_one (js_ret je_bl))
  js_nil)
  (js_one (js_if (jt_not (jt_tru (je_cg G__law_refuses hr gl__law_refuses (ja_cons (je_v v3) ja_nil))))
  (js_one (js_ret je_bl))
  js_nil))))))))))))
  (js_one (js_ret (je_and (je_cg G__law_refuses hr gl__law_refuses (ja_cons (je_lst ja_nil) ja_nil)) (je_one (je_cg G__law_same hr gl__law_same (ja_cons (je_cg G_clearances hr gl_clearances (ja_cons (je_lst ja_nil) (ja_cons (je_lst (ja_cons (je_cg G__law_ray hr gl__law_ray (ja_cons (je_v v1) ja_nil)) ja_nil)) ja_nil))) (ja_cons (je_lst ja_nil) ja_nil)))))))))
theorem f_law (KX : K.In base) (GX : base.Ns mainGlobals mg) (c : He.SaysD fa fn K) (hxb : xb K = true) (hns : BaseOk K mg base) (htr : P.given.tree = none) {fd : FuncData} (F : FunD K dd_law.name dd_law.qual dd_law.params dd_law.body dd_law.scope (dd_law.dvs K) (dd_law.kws K) (He.fAd K dd_law.at_) fd) : Fnn P w K mg base CX0 10 (He.fAd K dd_law.at_) fd (["_law_script"] : List Str) (liftSp K PG.sp_law_33) := by
  unfold PG.sp_law_33
  exact mkF (N := (["_law_script", "_law_box_here", "_law_turn", "_law_train_here", "_law_rays", "_law_planes_here", "_law_ray_here", "_law_kept", "_law_told", "_law_blocked", "_law_k", "_law_one", "_law_row_here"] : List Str)) false hns htr F sc_law rfl rfl (fun X cdv A outer s H E hX hcd am => by subst hX; exact d_law am sc_law.nd rfl PassesOwn.never rfl rfl (fun _ => rfl) (He.free_ok KX GX (c.fact 58 (f := .free "range") rfl)) (He.free_ok KX GX (c.fact 60 (f := .free "repr") rfl)) (g__law_box (P := P) (w := w) KX GX c hxb hns htr) (g__law_train (P := P) (w := w) KX GX c hxb hns htr) (g__law_draw (P := P) (w := w) KX GX c hxb hns htr) (g__law_ray (P := P) (w := w) KX GX c hxb hns htr) (g__law_planes (P := P) (w := w) KX GX c hxb hns htr) (g__law_empty (P := P) (w := w) KX GX c hxb hns htr) (g__law_sample (P := P) (w := w) KX GX c hxb hns htr) (g_clearances (P := P) (w := w) KX GX c hxb hns htr) (g__law_due (P := P) (w := w) KX GX c hxb hns htr) (g__law_same (P := P) (w := w) KX GX c hxb hns htr) (g__law_exit (P := P) (w := w) KX GX c hxb hns htr) (g__law_refuses (P := P) (w := w) KX GX c hxb hns htr))

end

abbrev R : PySem.W.OpenRow := PySem.W.OpenLaw.row PySem.Challenge.rw_raytrain_k50_clearances
abbrev hk : PySem.W.Hook := hookR 2 fa fn xb
def ob (s : PySem.W.SharedT) : AlR := obsR 2 fa fn xb (HandSHeadRun.getT s)
theorem ob_eq (s : PySem.W.SharedT) : ob s = hk.obs s.abs := obsR_eq (HandSHeadRun.getT_eq s)
def loose : List Str := (["__name__", "RaytrainError", "NoRays", "NoSuchElement", "CannotShift", "ZERO", "ONE", "common_divisor", "fraction", "add", "negative", "subtract", "multiply", "divide", "sign", "compare", "is_less", "least_of", "IDENTITY", "element_map", "weighted", "apply_map", "compose_maps", "ray_transfer", "edges_of", "clearance", "clearances", "_law_cell", "_law_row", "_law_box"] : List Str) ++ (["_law_draw", "_law_same", "_law_frac", "_law_add", "_law_neg", "_law_sub", "_law_mul", "_law_div", "_law_less", "_law_least", "_law_greatest", "_law_fraction", "_law_nonzero", "_law_stop", "_law_element", "_law_train", "_law_ray", "_law_go", "_law_blocks", "_law_out", "_law_exit", "_law_map", "_law_plane", "_law_edges", "_law_planes", "_law_line", "_law_bounds", "_law_empty", "_law_near", "_law_sample"] : List Str) ++ (["_law_due", "_law_refuses"] : List Str)
theorem run (w : World) : HandSHeadRun.RunEq R (PySem.W.view R.prog [66]) hk ob 3000 loose w := by
  intro os
  kernel_rfl
theorem facts {w : World} {K : PySem.W.Frag} {h : Heap} {mg : Str → Option Value} {f : Addr} (X : K.In h) (G : h.Ns mainGlobals mg) (hfa : mg ("law" : Str) = some (.ref f)) (c : He.SaysD fa fn K) (hxb : xb K = true) :
    ∃ fd : FuncData, (∀ (s : Shared) (v : Value), BindsTo s fd ⟨[v], []⟩ [("_law_script", v)]) ∧ ∀ base : Heap, K.In base → base.Ns mainGlobals mg → BaseOk K mg base → Fnn PySem.Challenge.rw_raytrain_k50_clearances.prog w K mg base CX0 10 f fd ["_law_script"] (liftSp K PG.sp_law_33) := by
  obtain ⟨fd, F⟩ := c.def_ 54 (d := dd_law) rfl
  have e := hfa.symm.trans (He.glo_ok X G (c.fact 54 (f := .glo "law") rfl))
  cases e
  have b := FunD.bindsA (ps := ["_law_script"]) F fun _ _ _ _ _ _ us hl => match us, hl with | [_], _ => rfl
  exact ⟨fd, fun s v => b s [v] rfl, fun base KX GX hns => f_law KX GX c hxb hns rfl F⟩

end K50

open PySem PySem.W PySem.Calls PyProof.Rows
set_option maxHeartbeats 0 in
theorem K50.holds_of (law : RT.LawD 63 PG.sp_law_33) : PySem.Challenge.rw_raytrain_k50_clearances.Holds := by
  w_on; o_law
  refine HandSHeadRun.head_any (r := OpenLaw.row PySem.Challenge.rw_raytrain_k50_clearances) (q := view (OpenLaw.row PySem.Challenge.rw_raytrain_k50_clearances).prog [66]) (H := K50.hk) (ob := K50.ob) (M := 3000) (loose := K50.loose) (d := HandSHeadRun.topDef (OpenLaw.row PySem.Challenge.rw_raytrain_k50_clearances).prog 66) (kwd := []) K50.ob_eq
    (by kernel_rfl) (fun s => by kernel_rfl) K50.run (by kernel_rfl) (by kernel_rfl) (by kernel_rfl) (by rfl) (by first | assumption | decide +kernel) (by decide +kernel) ⟨rfl, rfl, rfl, rfl, rfl, by decide +kernel⟩ ?hw ?hc
  case hw => w_witness2
  case hc =>
    refine RT.walk_R (l := PySem.Challenge.rw_raytrain_k50_clearances) (n := 63) (k := 10) (x := "_law_script") (sp := PG.sp_law_33) rfl (by decide) (by kernel_rfl) ⟨⟨rfl, by decide, by decide⟩, rfl, by decide⟩ (by kernel_rfl) law ?F
    intro w mg fa h Y G hmg0
    obtain ⟨K, KX, nl, tk, xbK, c⟩ := Y
    have hmg : mg ("law" : PySem.Str) = some (.ref fa) := by
      have e : (HandSHeadRun.topDef (OpenLaw.row PySem.Challenge.rw_raytrain_k50_clearances).prog 66).name = ("law" : PySem.Str) := by kernel_rfl
      rw [← e]
      exact hmg0
    obtain ⟨fd, hb, hF⟩ := K50.facts (w := w) KX G hmg c xbK
    exact ⟨K, fd, KX, nl, tk, hb, hF⟩

theorem PySem.Challenge.cw_raytrain_k50_clearances_holds : PySem.Challenge.rw_raytrain_k50_clearances.Holds :=
  K50.holds_of PG.law_k50

