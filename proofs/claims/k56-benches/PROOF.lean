import PyProof.Rows.All
import Wide.All
import OpenK.AllK
import Wide.FinOn
import HandS.AnyAll
import HandS.GenOver
import PyProof.GenCompD
import HandS.Zip
import KE.GoesZip
import KE.GoesMore
import KE.GoesEnum
import HandS.ForMost
import HandS.ForExc
import HandS.Wide
import HandS.HeadHook1
import HandS.IsInst
import HandS.Deep
import HandS.TupAny
import HandS.TupLe
import HandS.More
import HandS.EndBits
import HandS.Defaults
import HandS.Head0
import HandS.Head1
import HandS.Head2
import HandS.HeadEnd
import HandS.HeadHook2
import HandS.HeadHook4
import KE.KNestM
import PyProof.ReprRoads
import HandS.Style
import KE.DataFind
import HandS.TryOnly
import HandS.Rev
import HandS.Conv
import PyProof.ListRange
import HandS.ExcIs
import HandS.ExcOwn
import HandS.WordsExc
import HandS.List
import HandS.Dict
import HandS.ExcInit
import HandS.FStr
import HandS.Nested
import KE.KExcSuper
import HandS.ExcField
import HandS.Text
import HandS.TryMany
import HandS.Finally
import HandS.Codes
import PySem.Challenge.RW_raytrain_k56_benches
set_option Elab.async false
set_option linter.all false

set_option maxRecDepth 100000
set_option maxHeartbeats 4000000

namespace RG
open PySem PySem.Spec PyProof.Rows L2 GxR
section
variable {X : Cx} {pins : List (Addr × Obj)} {σ : L2.St} {H : Hp} {s : Shared}
def GR (X' : Cx) (pn : List (Addr × Obj)) (Qe : Hp → Prop) : GenEnd := fun _ _ r s₁ => r = .ok .next ∧ ∃ H4 σ4, Inv X' pn σ4 H4 s₁ ∧ Qe H4
def GY (X' : Cx) (pn : List (Addr × Obj)) (isAll : Bool) (Qx : Hp → Prop) : Protocol := fun _ _ v s kap => ∃ H4 σ4 b, v = .bool b ∧ Inv X' pn σ4 H4 s ∧
  if b = isAll then (∀ s'' : Shared, s''.heap = s.heap → s''.os = s.os → AllBare s''.gens → kap (.send .none) s'') else Qx H4
structure GSt (X' : Cx) (pn : List (Addr × Obj)) (isAll : Bool) (Qe Qx : Hp → Prop) (A0 : Around) (ag : Addr) (g n : Nat) (s : Shared) : Prop where
  isg : s.heap.IsGen ag g
  lim : s.heap.NoLimit
  bare : AllBare s.gens
  go : ∃ gs, s.gens[g]? = some gs ∧ gs.Goes (model X'.prog X'.w) A0 (GR X' pn Qe) (GY X' pn isAll Qx) n (.send .none) (s.setGen g .running)
end
end RG

set_option maxRecDepth 100000
set_option maxHeartbeats 4000000
namespace RG
open PySem PySem.Spec PyProof.Rows L2 GxR
section
variable {X : Cx} {pins : List (Addr × Obj)} {σ : L2.St} {H : Hp} {s : Shared}
structure GAo (A A' : Around) : Prop where
  hd : A'.handled = none
  dp : A'.depth ≤ A.depth + 1
  un : A'.units ≤ A.units + 8
  gd : A'.guards = A.guards
end
end RG

set_option maxRecDepth 100000
set_option maxHeartbeats 4000000

namespace RG
open PySem PySem.Spec PyProof.Rows L2
end RG

set_option maxRecDepth 100000
set_option maxHeartbeats 4000000

namespace RT
open PySem PySem.Spec PyProof.Rows L2

inductive Dt where
  | non | bl (b : Bool) | int (i : Int) | str (s : Str) | tup (ds : List Dt) | lst (ds : List Dt)

mutual
def Rep (K : PySem.W.Frag) (F : Hp) : Dt → V → Prop
  | .non, v => v = .non
  | .bl b, v => v = .bl b
  | .int i, v => v = .int i
  | .str s, v => v = .str s
  | .tup ds, v => ∃ a vs, v = .ref a ∧ SqT K F a vs ∧ Reps K F ds vs
  | .lst ds, v => ∃ a vs, v = .ref a ∧ Rd F a (.lst vs) ∧ Reps K F ds vs
def Reps (K : PySem.W.Frag) (F : Hp) : List Dt → List V → Prop
  | [], vs => vs = []
  | d :: ds, vs => ∃ v r, vs = v :: r ∧ Rep K F d v ∧ Reps K F ds r
end

theorem seqT_mono {K : PySem.W.Frag} {H H' : Hp} {a : Addr} {xs : List V} (e : Same H H') (h : SqT K H a xs) : SqT K H' a xs := by
  rcases h with (h | ⟨o, h⟩) | h
  · exact .inl (.inl (e _ _ h))
  · exact .inl (.inr ⟨o, e _ _ h⟩)
  · exact .inr h
theorem rd_mono {H H' : Hp} {a : Addr} {u : HO} (e : Same H H') (h : Rd H a u) : Rd H' a u := by
  rcases h with h | ⟨o, h⟩
  · exact .inl (e _ _ h)
  · exact .inr ⟨o, e _ _ h⟩
section
variable {K : PySem.W.Frag} {F F' : Hp}
mutual
theorem Rep.mono (e : Same F F') : ∀ {d : Dt} {v : V}, Rep K F d v → Rep K F' d v
  | .non, _, h => by simpa only [Rep] using h
  | .bl _, _, h => by simpa only [Rep] using h
  | .int _, _, h => by simpa only [Rep] using h
  | .str _, _, h => by simpa only [Rep] using h
  | .tup ds, v, h => by
    simp only [Rep] at h ⊢
    obtain ⟨a, vs, e1, s, r⟩ := h
    exact ⟨a, vs, e1, seqT_mono e s, Reps.mono e r⟩
  | .lst ds, v, h => by
    simp only [Rep] at h ⊢
    obtain ⟨a, vs, e1, s, r⟩ := h
    exact ⟨a, vs, e1, rd_mono e s, Reps.mono e r⟩
theorem Reps.mono (e : Same F F') : ∀ {ds : List Dt} {vs : List V}, Reps K F ds vs → Reps K F' ds vs
  | [], _, h => by simpa only [Reps] using h
  | d :: ds, vs, h => by
    simp only [Reps] at h ⊢
    obtain ⟨v, r, e1, h1, h2⟩ := h
    exact ⟨v, r, e1, Rep.mono e h1, Reps.mono e h2⟩
end
theorem Reps.nil : Reps K F [] [] := by simp only [Reps]
theorem Reps.cons {d : Dt} {v : V} {ds : List Dt} {vs : List V} (h : Rep K F d v) (t : Reps K F ds vs) : Reps K F (d :: ds) (v :: vs) := by
  simp only [Reps]
  exact ⟨v, vs, rfl, h, t⟩
theorem Reps.length : ∀ {ds : List Dt} {vs : List V}, Reps K F ds vs → ds.length = vs.length
  | [], vs, h => by
    simp only [Reps] at h
    rw [h]
    rfl
  | d :: ds, vs, h => by
    simp only [Reps] at h
    obtain ⟨v, r, rfl, _, h2⟩ := h
    rw [List.length_cons, List.length_cons, Reps.length h2]
theorem Reps.append : ∀ {ds es : List Dt} {vs us : List V}, Reps K F ds vs → Reps K F es us → Reps K F (ds ++ es) (vs ++ us)
  | [], es, vs, us, h, h' => by
    simp only [Reps] at h
    rw [h]
    exact h'
  | d :: ds, es, vs, us, h, h' => by
    simp only [Reps] at h
    obtain ⟨v, r, rfl, h1, h2⟩ := h
    exact .cons h1 (Reps.append h2 h')
theorem Reps.get : ∀ {ds : List Dt} {vs : List V} {i : Nat} {d : Dt}, Reps K F ds vs → ds[i]? = some d → ∃ v, vs[i]? = some v ∧ Rep K F d v
  | [], _, _, _, _, e => by simp at e
  | d :: ds, vs, 0, d', h, e => by
    simp only [Reps] at h
    obtain ⟨v, r, rfl, h1, h2⟩ := h
    cases e
    exact ⟨v, rfl, h1⟩
  | d :: ds, vs, i + 1, d', h, e => by
    simp only [Reps] at h
    obtain ⟨v, r, rfl, h1, h2⟩ := h
    exact Reps.get (i := i) h2 e
theorem Reps.take : ∀ {ds : List Dt} {vs : List V} (n : Nat), Reps K F ds vs → Reps K F (ds.take n) (vs.take n)
  | _, _, 0, _ => by
    rw [List.take_zero, List.take_zero]
    exact .nil
  | [], vs, n + 1, h => by
    simp only [Reps] at h
    rw [h]
    exact .nil
  | d :: ds, vs, n + 1, h => by
    simp only [Reps] at h
    obtain ⟨v, r, rfl, h1, h2⟩ := h
    exact .cons h1 (Reps.take n h2)
theorem Reps.drop : ∀ {ds : List Dt} {vs : List V} (n : Nat), Reps K F ds vs → Reps K F (ds.drop n) (vs.drop n)
  | _, _, 0, h => h
  | [], vs, n + 1, h => by
    simp only [Reps] at h
    rw [h]
    exact .nil
  | d :: ds, vs, n + 1, h => by
    simp only [Reps] at h
    obtain ⟨v, r, rfl, h1, h2⟩ := h
    exact Reps.drop n h2
theorem Reps.set {x : Dt} {u : V} (hx : Rep K F x u) : ∀ {ds : List Dt} {vs : List V} (n : Nat), Reps K F ds vs → Reps K F (ds.set n x) (vs.set n u)
  | [], vs, n, h => by
    simp only [Reps] at h
    rw [h]
    exact .nil
  | d :: ds, vs, 0, h => by
    simp only [Reps] at h
    obtain ⟨v, r, rfl, h1, h2⟩ := h
    exact .cons hx h2
  | d :: ds, vs, n + 1, h => by
    simp only [Reps] at h
    obtain ⟨v, r, rfl, h1, h2⟩ := h
    exact .cons h1 (Reps.set hx n h2)
end

inductive Vl where
  | d (x : Dt) | c (k : Nat)
inductive Cell where
  | lst (xs : List Dt) | dead
structure M where
  sl : List (Option Vl)
  st : List Cell
def RepV (K : PySem.W.Frag) (F : Hp) (A : List Addr) : Vl → V → Prop
  | .d x, v => Rep K F x v
  | .c k, v => ∃ a, A[k]? = some a ∧ v = .ref a
theorem RepV.mono {K : PySem.W.Frag} {F F' : Hp} {A A' : List Addr} (e : Same F F') (p : A <+: A') : ∀ {x : Vl} {v : V}, RepV K F A x v → RepV K F' A' x v
  | .d x, v, h => Rep.mono e h
  | .c k, v, h => by
    obtain ⟨a, h1, h2⟩ := h
    obtain ⟨t, rfl⟩ := p
    obtain ⟨hk, _⟩ := List.getElem?_eq_some_iff.mp h1
    exact ⟨a, by rw [List.getElem?_append_left hk]; exact h1, h2⟩

def gdefs : List (Str × Option Str) := [("triple_weights", none), ("is_certificate", none), ("contains_ray", none), ("is_empty", none), ("is_bounded", none), ("natural_of", none), ("fraction_of", none), ("parse_train", none)]
def tabK (K : PySem.W.Frag) (p : Str × Option Str) : Option (Addr × Addr) := match K.lookup (He.fAd K p) with
  | some ⟨_, _, .func fd, _⟩ => (match fd.code with
    | .ref c => (match K.lookup c with
      | some ⟨_, _, .fields vs, _⟩ => (match vs.getD 11 .none with
        | .ref P => some (c, P)
        | _ => none)
      | _ => none)
    | _ => none)
  | _ => none
def tabsK (K : PySem.W.Frag) : List (Addr × Addr) := gdefs.filterMap (tabK K)
theorem tab_upd {H : Hp} {P p : Addr} {o : HO} (t : GxR.TabG H P) (n : H p = none) : GxR.TabG (upd H p o) P := by
  obtain ⟨ps, h, ok⟩ := t
  exact ⟨ps, by rw [upd_ne (ne_of_none h n)]; exact h, ok⟩
theorem tab_ne {H : Hp} {P a : Addr} {vs : List V} (t : GxR.TabG H P) (n : H a = some (.lst vs)) : P ≠ a := fun z => by
  obtain ⟨ps, h, ok⟩ := t
  rw [z, n] at h
  cases h
theorem tab_lst {H : Hp} {P a : Addr} {vs : List V} {o : HO} (t : GxR.TabG H P) (n : H a = some (.lst vs)) : GxR.TabG (upd H a o) P := by
  have ne := tab_ne t n
  obtain ⟨ps, h, ok⟩ := t
  exact ⟨ps, by rw [upd_ne ne]; exact h, ok⟩
theorem tab_some {H : Hp} {P p : Addr} (t : GxR.TabG H P) (n : H p = none) : P ≠ p := fun z => by
  obtain ⟨ps, h, ok⟩ := t
  rw [z, n] at h
  cases h
def ObjK : HO → Prop
  | .ins _ _ _ => True
  | .xd _ => True
  | _ => False
def SameO (W W' : Hp) : Prop := ∀ a o, ObjK o → W a = some o → W' a = some o
theorem SameO.refl (W : Hp) : SameO W W := fun _ _ _ e => e
theorem SameO.of {W W' : Hp} (h : Same W W') : SameO W W' := fun a o _ e => h a o e
theorem SameO.unl {W : Hp} {D : Addr} {us : List V} : SameO (upd W D (.lst us)) W := fun a o k e => by
  by_cases hb : a = D
  · rw [hb, upd_same] at e
    cases e
    exact k.elim
  · rw [upd_ne hb] at e
    exact e
theorem SameO.ull {W : Hp} {D : Addr} {us ws : List V} : SameO (upd W D (.lst us)) (upd W D (.lst ws)) := fun a o k e => by
  by_cases hb : a = D
  · rw [hb, upd_same] at e
    cases e
    exact k.elim
  · rw [upd_ne hb] at e ⊢
    exact e
class Ghost where
  p : Hp → Hp → List Addr → Prop
  mono : ∀ {W W' F F' : Hp} {A A' : List Addr}, p W F A → SameO W W' → Same F F' → A <+: A' → p W' F' A'
instance Ghost.tt : Ghost := ⟨fun _ _ _ => True, fun _ _ _ _ => True.intro⟩
variable [Gh : Ghost]
structure Good (K : PySem.W.Frag) (W F : Hp) (A : List Addr) (m : M) (σ : L2.St) (H : Hp) : Prop where
  ext : Same F H
  hid : Same W H
  dj : ∀ a o, W a = some o → F a = none
  slen : m.sl.length = σ.length
  sl : ∀ (i : Nat) (v : Vl), m.sl[i]? = some (some v) → ∃ u : V, σ[i]? = some (some u) ∧ RepV K F A v u
  len : A.length = m.st.length
  st : ∀ (k : Nat) (xs : List Dt), m.st[k]? = some (Cell.lst xs) → ∃ (a : Addr) (vs : List V), A[k]? = some a ∧ H a = some (.lst vs) ∧ Reps K F xs vs ∧ F a = none ∧ W a = none
  nd : ∀ (j k : Nat) (xs ys : List Dt) (a : Addr), m.st[j]? = some (.lst xs) → m.st[k]? = some (.lst ys) → A[j]? = some a → A[k]? = some a → j = k
  tb : ∀ q ∈ tabsK K, GxR.TabG H q.2 ∧ F q.2 = none ∧ W q.2 = none
  gh : Ghost.p W F A

abbrev DE := M → (Vl → M → Prop) → Prop
abbrev DA := M → (List Vl → M → Prop) → Prop
abbrev DT := M → (Bool → M → Prop) → Prop
structure DEnds where
  nx : M → Prop
  rt : Vl → M → Prop
  bk : M → Prop
  ct : M → Prop
abbrev DS := DEnds → M → Prop

def After (K : PySem.W.Frag) (W F : Hp) (A : List Addr) (σ : L2.St) {α : Type} (Q : α → M → Prop) (R : Hp → List Addr → α → Hp → Prop) : Prop :=
  ∀ F' A' x m' H', Same F F' → A <+: A' → Good K W F' A' m' σ H' → Q x m' → R F' A' x H'
def lift (K : PySem.W.Frag) (t : DE) : TE := fun σ H Q => ∃ W F A m Qd, Good K W F A m σ H ∧ t m Qd ∧
  After K W F A σ Qd fun F' A' v H' => ∀ u, RepV K F' A' v u → Q u H'
def liftT (K : PySem.W.Frag) (t : DT) : TT := fun σ H Q => ∃ W F A m Qd, Good K W F A m σ H ∧ t m Qd ∧
  After K W F A σ Qd fun _ _ b H' => Q b H'
def RepVs (K : PySem.W.Frag) (F : Hp) (A : List Addr) : List Vl → List V → Prop
  | [], us => us = []
  | v :: vs, us => ∃ u r, us = u :: r ∧ RepV K F A v u ∧ RepVs K F A vs r
theorem RepVs.mono {K : PySem.W.Frag} {F F' : Hp} {A A' : List Addr} (e : Same F F') (p : A <+: A') : ∀ {x : List Vl} {v : List V}, RepVs K F A x v → RepVs K F' A' x v
  | [], _, h => h
  | _ :: _, _, h => by
    obtain ⟨u, r, e1, h1, h2⟩ := h
    exact ⟨u, r, e1, RepV.mono e p h1, RepVs.mono e p h2⟩
theorem RepVs.length {K : PySem.W.Frag} {F : Hp} {A : List Addr} : ∀ {x : List Vl} {v : List V}, RepVs K F A x v → x.length = v.length
  | [], _, h => by
    have e := h
    simp only [RepVs] at e
    rw [e]
    rfl
  | _ :: _, _, h => by
    obtain ⟨u, r, rfl, h1, h2⟩ := h
    rw [List.length_cons, List.length_cons, RepVs.length h2]
def liftA (K : PySem.W.Frag) (t : DA) : TA := fun σ H Q => ∃ W F A m Qd, Good K W F A m σ H ∧ t m Qd ∧
  After K W F A σ Qd fun F' A' vs H' => ∀ us, RepVs K F' A' vs us → Q us H'
structure Conts (K : PySem.W.Frag) (W F : Hp) (A : List Addr) (E : DEnds) (D : Ends) : Prop where
  nx : ∀ F' A' m' σ' H', Same F F' → A <+: A' → Good K W F' A' m' σ' H' → E.nx m' → D.nx σ' H'
  rt : ∀ F' A' m' σ' H' v u, Same F F' → A <+: A' → Good K W F' A' m' σ' H' → RepV K F' A' v u → E.rt v m' → D.rt u H'
  bk : ∀ F' A' m' σ' H', Same F F' → A <+: A' → Good K W F' A' m' σ' H' → E.bk m' → D.bk σ' H'
  ct : ∀ F' A' m' σ' H', Same F F' → A <+: A' → Good K W F' A' m' σ' H' → E.ct m' → D.ct σ' H'
theorem Conts.mono {K : PySem.W.Frag} {W F F' : Hp} {A A' : List Addr} {E : DEnds} {D : Ends} (c : Conts K W F A E D) (s : Same F F') (p : A <+: A') : Conts K W F' A' E D :=
  ⟨fun F2 A2 m σ H s2 p2 => c.nx F2 A2 m σ H (s.trans s2) (p.trans p2), fun F2 A2 m σ H v u s2 p2 => c.rt F2 A2 m σ H v u (s.trans s2) (p.trans p2),
    fun F2 A2 m σ H s2 p2 => c.bk F2 A2 m σ H (s.trans s2) (p.trans p2), fun F2 A2 m σ H s2 p2 => c.ct F2 A2 m σ H (s.trans s2) (p.trans p2)⟩
def liftS (K : PySem.W.Frag) (t : DS) : TS := fun D σ H => ∃ W F A m E, Good K W F A m σ H ∧ t E m ∧ Conts K W F A E D

theorem _root_.L2.PE.imp {X : Cx} {e : Expr} {t t' : TE} (h : PE X e t) (f : ∀ σ H Q, t' σ H Q → t σ H Q) : PE X e t' := ⟨fun pins s σ H Q I q => h.run pins s σ H Q I (f _ _ _ q)⟩
theorem _root_.L2.PT.imp {X : Cx} {e : Expr} {t t' : TT} (h : PT X e t) (f : ∀ σ H Q, t' σ H Q → t σ H Q) : PT X e t' := ⟨fun pins s σ H Q I q => h.run pins s σ H Q I (f _ _ _ q)⟩
theorem _root_.L2.PW.imp {X : Cx} {e : Expr} {t t' : TT} (h : PW X e t) (f : ∀ σ H Q, t' σ H Q → t σ H Q) : PW X e t' := ⟨fun w pins s σ H Q I q => h.run w pins s σ H Q I (f _ _ _ q)⟩
theorem _root_.L2.PA.imp {X : Cx} {e : List Expr} {t t' : TA} (h : PA X e t) (f : ∀ σ H Q, t' σ H Q → t σ H Q) : PA X e t' := ⟨fun p pins s σ H Q I q => h.run p pins s σ H Q I (f _ _ _ q)⟩
theorem _root_.L2.PS.imp {X : Cx} {e : Stmt} {t t' : TS} (h : PS X e t) (f : ∀ D σ H, t' D σ H → t D σ H) : PS X e t' := ⟨fun pins s σ H D I q => h.run pins s σ H D I (f _ _ _ q)⟩
theorem _root_.L2.PSs.imp {X : Cx} {e : List Stmt} {t t' : TS} (h : PSs X e t) (f : ∀ D σ H, t' D σ H → t D σ H) : PSs X e t' := ⟨fun pins s σ H D I q => h.run pins s σ H D I (f _ _ _ q)⟩

abbrev JE (X : Cx) (e : Expr) (t : DE) : Prop := PE X e (lift X.K t)
abbrev JT (X : Cx) (e : Expr) (t : DT) : Prop := PT X e (liftT X.K t)
abbrev JW (X : Cx) (e : Expr) (t : DT) : Prop := PW X e (liftT X.K t)
abbrev JA (X : Cx) (e : List Expr) (t : DA) : Prop := PA X e (liftA X.K t)
abbrev JS (X : Cx) (e : Stmt) (t : DS) : Prop := PS X e (liftS X.K t)
abbrev JSs (X : Cx) (e : List Stmt) (t : DS) : Prop := PSs X e (liftS X.K t)

section
variable {K : PySem.W.Frag} {W F F' : Hp} {A A' : List Addr} {m : M} {σ : L2.St} {H H' : Hp}
theorem pre_refl {α : Type} (l : List α) : l <+: l := ⟨[], List.append_nil l⟩
theorem pre_trans {α : Type} {a b c : List α} (h : a <+: b) (h' : b <+: c) : a <+: c := List.IsPrefix.trans h h'
theorem same_upd {p : Addr} {o : HO} (h : H p = none) : Same H (upd H p o) := fun b x e => by
  rw [upd_ne (ne_of_none e h)]
  exact e
theorem same_upd2 {p : Addr} {o : HO} (e : Same F H) : Same (upd F p o) (upd H p o) := fun b x q => by
  by_cases hb : b = p
  · subst hb
    rw [upd_same] at q ⊢
    exact q
  · rw [upd_ne hb] at q ⊢
    exact e _ _ q
theorem Good.laid {p : Addr} {o : HO} (G : Good K W F A m σ H) (n : H p = none) : Good K W (upd F p o) A m σ (upd H p o) := by
  have nF : F p = none := G.ext.free n
  have s : Same F (upd F p o) := same_upd nF
  refine ⟨same_upd2 G.ext, G.hid.trans (same_upd n), fun b x e => by rw [upd_ne (ne_of_none (G.hid _ _ e) n)]; exact G.dj b x e, G.slen, fun i v e => ?_, G.len, fun k xs e => ?_, G.nd, fun q hq => ?_, Ghost.mono G.gh (SameO.refl _) s (pre_refl _)⟩
  · obtain ⟨u, h1, h2⟩ := G.sl i v e
    exact ⟨u, h1, RepV.mono s (pre_refl _) h2⟩
  · obtain ⟨a, vs, h1, h2, h3, h4, h5⟩ := G.st k xs e
    have ne : a ≠ p := ne_of_none h2 n
    exact ⟨a, vs, h1, by rw [upd_ne ne]; exact h2, Reps.mono s h3, by rw [upd_ne ne]; exact h4, h5⟩
  · obtain ⟨t1, t2, t3⟩ := G.tb q hq
    exact ⟨tab_upd t1 n, by rw [upd_ne (tab_some t1 n)]; exact t2, t3⟩
theorem Good.own {p : Addr} {xs : List Dt} {vs : List V} (G : Good K W F A m σ H) (n : H p = none) (r : Reps K F xs vs) : Good K W F (A ++ [p]) ⟨m.sl, m.st ++ [.lst xs]⟩ σ (upd H p (.lst vs)) := by
  have pr : A <+: A ++ [p] := ⟨[p], rfl⟩
  have at_ : ∀ k, k < m.st.length → (A ++ [p])[k]? = A[k]? := fun k hk => List.getElem?_append_left (by rw [G.len]; exact hk)
  have lst_ : (A ++ [p])[m.st.length]? = some p := by rw [← G.len]; simp
  have old : ∀ k, k < m.st.length → (m.st ++ [Cell.lst xs])[k]? = m.st[k]? := fun k hk => List.getElem?_append_left hk
  have new : ∀ k c, ¬ k < m.st.length → (m.st ++ [Cell.lst xs])[k]? = some c → k = m.st.length ∧ c = .lst xs := fun k c hk e => by
    have hk2 := (List.getElem?_eq_some_iff.mp e).1
    rw [List.length_append, List.length_singleton] at hk2
    have ek : k = m.st.length := by omega
    subst ek
    rw [List.getElem?_append_right (Nat.le_refl _), Nat.sub_self] at e
    exact ⟨rfl, (Option.some.inj e).symm⟩
  refine ⟨G.ext.trans (same_upd n), G.hid.trans (same_upd n), G.dj, G.slen, fun i v e => ?_, by simp [G.len], fun k ys e => ?_, fun j k ys zs a e1 e2 h1 h2 => ?_, fun q hq => ⟨tab_upd (G.tb q hq).1 n, (G.tb q hq).2⟩, Ghost.mono G.gh (SameO.refl _) (Same.refl _) pr⟩
  · obtain ⟨u, h1, h2⟩ := G.sl i v e
    exact ⟨u, h1, RepV.mono (Same.refl _) pr h2⟩
  · by_cases hk : k < m.st.length
    · have e' : m.st[k]? = some (.lst ys) := (old k hk).symm.trans e
      obtain ⟨a, ws, h1, h2, h3, h4⟩ := G.st k ys e'
      exact ⟨a, ws, (at_ k hk).trans h1, by rw [upd_ne (ne_of_none h2 n)]; exact h2, h3, h4⟩
    · obtain ⟨ek, ec⟩ := new k _ hk e
      subst ek
      cases ec
      exact ⟨p, vs, lst_, upd_same, r, G.ext.free n, G.hid.free n⟩
  · have nA : ∀ k zs, k < m.st.length → (m.st ++ [Cell.lst xs])[k]? = some (.lst zs) → (A ++ [p])[k]? = some p → False := fun k zs hk e h => by
      obtain ⟨a', _, q1, q2, _⟩ := G.st k zs ((old k hk).symm.trans e)
      rw [at_ k hk, q1] at h
      cases h
      rw [n] at q2
      cases q2
    by_cases hj : j < m.st.length
    · by_cases hk : k < m.st.length
      · exact G.nd j k ys zs a ((old j hj).symm.trans e1) ((old k hk).symm.trans e2) ((at_ j hj).symm.trans h1) ((at_ k hk).symm.trans h2)
      · obtain ⟨ek, _⟩ := new k _ hk e2
        subst ek
        rw [lst_] at h2
        cases h2
        exact (nA j ys hj e1 h1).elim
    · obtain ⟨ej, _⟩ := new j _ hj e1
      subst ej
      by_cases hk : k < m.st.length
      · rw [lst_] at h1
        cases h1
        exact (nA k zs hk e2 h2).elim
      · obtain ⟨ek, _⟩ := new k _ hk e2
        exact ek.symm
theorem Good.store {i : Nat} {v : Vl} {u : V} (G : Good K W F A m σ H) (r : RepV K F A v u) : Good K W F A ⟨m.sl.set i (some v), m.st⟩ (σ.set i (some u)) H := by
  refine ⟨G.ext, G.hid, G.dj, by rw [List.length_set, List.length_set, G.slen], fun j w e => ?_, G.len, G.st, G.nd, G.tb, G.gh⟩
  have e' : (m.sl.set i (some v))[j]? = some (some w) := e
  rw [List.getElem?_set] at e' ⊢
  by_cases hj : i = j
  · rw [if_pos hj] at e' ⊢
    by_cases hl : i < m.sl.length
    · rw [if_pos hl] at e'
      rw [if_pos (by rw [← G.slen]; exact hl)]
      cases e'
      exact ⟨u, rfl, r⟩
    · rw [if_neg hl] at e'
      cases e'
  · rw [if_neg hj] at e' ⊢
    exact G.sl j w e'
theorem Good.write {k : Nat} {xs ys : List Dt} {a : Addr} {ws : List V} (G : Good K W F A m σ H) (e : m.st[k]? = some (.lst xs)) (ha : A[k]? = some a) (r : Reps K F ys ws) :
    Good K W F A ⟨m.sl, m.st.set k (.lst ys)⟩ σ (upd H a (.lst ws)) := by
  obtain ⟨a', vs, h1, h2, h3, h4, h5⟩ := G.st k xs e
  rw [ha] at h1
  cases h1
  have hk : k < m.st.length := (List.getElem?_eq_some_iff.mp e).1
  have sp : ∀ j c, (m.st.set k (Cell.lst ys))[j]? = some c → (j = k ∧ c = .lst ys) ∨ (j ≠ k ∧ m.st[j]? = some c) := fun j c q => by
    rw [List.getElem?_set] at q
    by_cases hj : k = j
    · rw [if_pos hj, if_pos hk] at q
      exact .inl ⟨hj.symm, (Option.some.inj q).symm⟩
    · rw [if_neg hj] at q
      exact .inr ⟨fun z => hj z.symm, q⟩
  refine ⟨fun b x q => ?_, fun b x q => ?_, G.dj, G.slen, G.sl, by rw [List.length_set]; exact G.len, fun j zs q => ?_, fun i j zs ts b q1 q2 p1 p2 => ?_, fun q hq => ⟨tab_lst (G.tb q hq).1 h2, (G.tb q hq).2⟩, G.gh⟩
  · have nb : b ≠ a := fun z => by
      rw [z, h4] at q
      cases q
    rw [upd_ne nb]
    exact G.ext _ _ q
  · have nb : b ≠ a := fun z => by
      rw [z, h5] at q
      cases q
    rw [upd_ne nb]
    exact G.hid _ _ q
  · rcases sp j _ q with ⟨rfl, ec⟩ | ⟨hj, q'⟩
    · cases ec
      exact ⟨a, ws, ha, upd_same, r, h4, h5⟩
    · obtain ⟨b, us, p1, p2, p3, p4⟩ := G.st j zs q'
      have nb : b ≠ a := fun z => hj (G.nd j k zs xs a q' e (by rw [← z]; exact p1) ha)
      exact ⟨b, us, p1, by rw [upd_ne nb]; exact p2, p3, p4⟩
  · have i' : ∃ zs', m.st[i]? = some (.lst zs') := by
      rcases sp i _ q1 with ⟨rfl, _⟩ | ⟨_, q'⟩
      · exact ⟨_, e⟩
      · exact ⟨_, q'⟩
    have j' : ∃ zs', m.st[j]? = some (.lst zs') := by
      rcases sp j _ q2 with ⟨rfl, _⟩ | ⟨_, q'⟩
      · exact ⟨_, e⟩
      · exact ⟨_, q'⟩
    obtain ⟨z1, i'⟩ := i'
    obtain ⟨z2, j'⟩ := j'
    exact G.nd i j z1 z2 b i' j' p1 p2
def frz (k : Nat) (xs : List Dt) (m : M) : M := ⟨m.sl.map fun o => match o with
  | some (.c j) => if j = k then some (.d (.lst xs)) else some (.c j)
  | o => o, m.st.set k .dead⟩
theorem Good.freeze {k : Nat} {xs : List Dt} (G : Good K W F A m σ H) (e : m.st[k]? = some (.lst xs)) : ∃ F' a, Same F F' ∧ A[k]? = some a ∧ Rep K F' (.lst xs) (.ref a) ∧ Good K W F' A (frz k xs m) σ H := by
  obtain ⟨a, vs, h1, h2, h3, h4, h5⟩ := G.st k xs e
  have s : Same F (upd F a (.lst vs)) := same_upd h4
  have hk : k < m.st.length := (List.getElem?_eq_some_iff.mp e).1
  have rp : Rep K (upd F a (.lst vs)) (.lst xs) (.ref a) := by
    simp only [Rep]
    exact ⟨a, vs, rfl, Rd.of upd_same, Reps.mono s h3⟩
  have sp : ∀ j zs, (m.st.set k Cell.dead)[j]? = some (.lst zs) → j ≠ k ∧ m.st[j]? = some (.lst zs) := fun j c q => by
    rw [List.getElem?_set] at q
    by_cases hj : k = j
    · rw [if_pos hj, if_pos hk] at q
      cases q
    · rw [if_neg hj] at q
      exact ⟨fun z => hj z.symm, q⟩
  refine ⟨upd F a (.lst vs), a, s, h1, rp, ⟨fun b x q => ?_, G.hid, fun b x q => by rw [upd_ne (fun z => by rw [z, h5] at q; cases q)]; exact G.dj b x q, by unfold frz; rw [List.length_map]; exact G.slen, fun i v q => ?_, by unfold frz; rw [List.length_set]; exact G.len, fun j zs q => ?_, fun i j zs ts b q1 q2 p1 p2 => ?_, fun q hq => ⟨(G.tb q hq).1, by rw [upd_ne (tab_ne (G.tb q hq).1 h2)]; exact (G.tb q hq).2.1, (G.tb q hq).2.2⟩, Ghost.mono G.gh (SameO.refl _) s (pre_refl _)⟩⟩
  · by_cases hb : b = a
    · subst hb
      rw [upd_same] at q
      cases q
      exact h2
    · rw [upd_ne hb] at q
      exact G.ext _ _ q
  · unfold frz at q
    rw [List.getElem?_map] at q
    cases r : m.sl[i]? with
    | none =>
      rw [r] at q
      cases q
    | some o =>
      rw [r] at q
      cases o with
      | none => cases q
      | some w =>
        obtain ⟨u, p1, p2⟩ := G.sl i w r
        cases w with
        | d x =>
          cases q
          exact ⟨u, p1, Rep.mono s p2⟩
        | c j =>
          by_cases hj : j = k
          · subst hj
            have q' : some (some (if j = j then Vl.d (.lst xs) else .c j)) = some (some v) := by
              rw [if_pos rfl]
              simpa using q
            rw [if_pos rfl] at q'
            cases q'
            obtain ⟨b, p3, rfl⟩ := p2
            rw [h1] at p3
            cases p3
            exact ⟨_, p1, rp⟩
          · have q' : v = .c j := by
              have : (if j = k then some (Vl.d (.lst xs)) else some (.c j)) = some v := Option.some.inj q
              rw [if_neg hj] at this
              exact (Option.some.inj this).symm
            subst q'
            exact ⟨u, p1, p2⟩
  · obtain ⟨hj, q'⟩ := sp j zs q
    obtain ⟨b, us, p1, p2, p3, p4⟩ := G.st j zs q'
    have nb : b ≠ a := fun z => hj (G.nd j k zs xs a q' e (by rw [← z]; exact p1) h1)
    exact ⟨b, us, p1, p2, Reps.mono s p3, by rw [upd_ne nb]; exact p4.1, p4.2⟩
  · obtain ⟨_, q1'⟩ := sp i zs q1
    obtain ⟨_, q2'⟩ := sp j ts q2
    exact G.nd i j zs ts b q1' q2' p1 p2
def view (m : M) : Vl → Option Dt
  | .d x => some x
  | .c k => match m.st[k]? with
    | some (.lst xs) => some (.lst xs)
    | _ => none
def RepB (K : PySem.W.Frag) (F H : Hp) : Dt → V → Prop
  | .lst ds, u => ∃ a vs, u = .ref a ∧ Rd H a (.lst vs) ∧ Reps K F ds vs
  | x, u => Rep K F x u
theorem Good.view {v : Vl} {u : V} {x : Dt} (G : Good K W F A m σ H) (r : RepV K F A v u) (e : view m v = some x) : RepB K F H x u := by
  cases v with
  | d y =>
    cases e
    cases x with
    | lst ds =>
      have r' : Rep K F (.lst ds) u := r
      simp only [Rep] at r'
      obtain ⟨a, vs, e1, s, q⟩ := r'
      exact ⟨a, vs, e1, rd_mono G.ext s, q⟩
    | _ => exact r
  | c k =>
    obtain ⟨a, h1, rfl⟩ := r
    unfold RT.view at e
    cases q : m.st[k]? with
    | none =>
      simp only [q] at e
      cases e
    | some c =>
      cases c with
      | dead =>
        simp only [q] at e
        cases e
      | lst xs =>
        simp only [q] at e
        cases e
        obtain ⟨a', vs, h1', h2, h3, _⟩ := G.st k xs q
        rw [h1] at h1'
        cases h1'
        exact ⟨a, vs, rfl, Rd.of h2, h3⟩
end
end RT

set_option maxRecDepth 100000
set_option maxHeartbeats 4000000
namespace RT
open PySem PySem.Spec PyProof.Rows L2
variable [Gh : Ghost]

def onV (m : M) (v : Vl) (k : Dt → Prop) : Prop := match view m v with
  | some x => k x
  | none => False
theorem onV_elim {m : M} {v : Vl} {k : Dt → Prop} (h : onV m v k) : ∃ x, view m v = some x ∧ k x := by
  unfold onV at h
  split at h
  · exact ⟨_, by assumption, h⟩
  · exact h.elim
def onD (v : Vl) (k : Dt → Prop) : Prop := match v with
  | .d x => k x
  | .c _ => False
theorem onD_elim {v : Vl} {k : Dt → Prop} (h : onD v k) : ∃ x, v = .d x ∧ k x := by
  cases v with
  | d x => exact ⟨x, rfl, h⟩
  | c k => exact h.elim

def onC (st : List Cell) (k : Nat) (P : List Dt → Prop) : Prop := match st[k]? with
  | some (.lst xs) => P xs
  | _ => False
theorem onC_elim {st : List Cell} {k : Nat} {P : List Dt → Prop} (h : onC st k P) : ∃ xs, st[k]? = some (.lst xs) ∧ P xs := by
  unfold onC at h
  split at h
  · exact ⟨_, by assumption, h⟩
  · exact h.elim
theorem onC_mk {st : List Cell} {k : Nat} {P : List Dt → Prop} {xs : List Dt} (e : st[k]? = some (.lst xs)) (h : P xs) : onC st k P := by
  unfold onC
  rw [e]
  exact h
section
variable {X : Cx}

def dVar (i : Nat) : DE := fun m Q => match m.sl[i]? with
  | some (some v) => Q v m
  | _ => False
theorem dVar_elim {i : Nat} {m : M} {Q : Vl → M → Prop} (h : dVar i m Q) : ∃ v, m.sl[i]? = some (some v) ∧ Q v m := by
  unfold dVar at h
  split at h
  · exact ⟨_, by assumption, h⟩
  · exact h.elim
theorem je_var (i : Nat) {x : Str} {pos : Pos} (hN : X.N[i]? = some x := by rfl) (hv : Vis X.env.scope x := by first | exact Or.inl rfl | exact Or.inr (Or.inl rfl) | exact Or.inr (Or.inr rfl)) (hd : (x == ("__debug__" : Str)) = false := by decide)
    (hcd : (x == ("__classdict__" : Str)) = false := by decide) : JE X (.Name x pos) (dVar i) :=
  (pv i hN hv hd hcd).imp fun σ H Q ⟨W, F, A, m, Qd, G, h, c⟩ => by
    obtain ⟨v, e, q⟩ := dVar_elim h
    obtain ⟨u, e', r⟩ := G.sl i v e
    exact ⟨u, e', c F A v m H (Same.refl _) (pre_refl _) G q u r⟩
def dC (x : Dt) : DE := fun m Q => Q (.d x) m
theorem lift_c {K : PySem.W.Frag} {x : Dt} {v : V} (r : ∀ F, Rep K F x v) {σ : L2.St} {H : Hp} {Q : VK} (h : lift K (dC x) σ H Q) : tC v σ H Q := by
  obtain ⟨W, F, A, m, Qd, G, h, c⟩ := h
  exact c F A _ m H (Same.refl _) (pre_refl _) G h v (r F)
theorem rep_int {K : PySem.W.Frag} {F : Hp} {i : Int} : Rep K F (.int i) (.int i) := by simp only [Rep]
theorem rep_bl {K : PySem.W.Frag} {F : Hp} {b : Bool} : Rep K F (.bl b) (.bl b) := by simp only [Rep]
theorem rep_non {K : PySem.W.Frag} {F : Hp} : Rep K F .non .non := by simp only [Rep]
theorem rep_str {K : PySem.W.Frag} {F : Hp} {s : Str} : Rep K F (.str s) (.str s) := by simp only [Rep]
theorem je_int {i j pos} : JE X (.Constant (.int i) j pos) (dC (.int i)) := pe_int.imp fun _ _ _ h => lift_c (fun _ => rep_int) h
theorem je_bl {b j pos} : JE X (.Constant (.bool b) j pos) (dC (.bl b)) := pe_bl.imp fun _ _ _ h => lift_c (fun _ => rep_bl) h
theorem je_non {j pos} : JE X (.Constant .none j pos) (dC .non) := pe_non.imp fun _ _ _ h => lift_c (fun _ => rep_non) h
theorem je_str {x j pos} : JE X (.Constant (.str x) j pos) (dC (.str x)) := pe_str.imp fun _ _ _ h => lift_c (fun _ => rep_str) h
structure GlobD (X : Cx) (x : Str) (d : Dt) : Prop where
  gl : Gl X x
  val : ∃ (v : V) (u : Value), X.mg x = some u ∧ RelV v u ∧ ∀ F, Rep X.K F d v
  nd : (x == ("__debug__" : Str)) = false
theorem je_glob {x : Str} {d : Dt} {pos : Pos} (g : GlobD X x d) : JE X (.Name x pos) (dC d) := by
  obtain ⟨hg, ⟨v, u, hm, r, rp⟩, nd⟩ := g
  exact (pe_glob hg hm r nd).imp fun _ _ _ h => lift_c rp h

abbrev DR2 := Dt → Dt → (Dt → Prop) → Prop
def dOp (r : DR2) (ta tb : DE) : DE := fun m Q => ta m fun v m1 => tb m1 fun w m2 => onV m2 v fun x => onV m2 w fun y => r x y fun z => Q (.d z) m2
def ValD (K : PySem.W.Frag) (R : V → V → Hp → VK → Prop) (r : DR2) : Prop :=
  ∀ (W F : Hp) (A : List Addr) (m : M) (σ : L2.St) (H : Hp) (x y : Dt) (u v : V) (P : Dt → Prop) (Q : VK), Good K W F A m σ H → RepB K F H x u → RepB K F H y v → r x y P →
    (∀ F' H' z w, Same F F' → Good K W F' A m σ H' → Rep K F' z w → P z → Q w H') → R u v H Q
def OpD (X : Cx) (f : Value → Value → Sem Value) (r : DR2) : Prop := ∃ R : R2, OpR X f R ∧ ValD X.K R r
theorem lift_op {K : PySem.W.Frag} {R : R2} {r : DR2} {ta tb : DE} (hR : ValD K R r) {σ : L2.St} {H : Hp} {Q : VK} (h : lift K (dOp r ta tb) σ H Q) : tOp R (lift K ta) (lift K tb) σ H Q := by
  obtain ⟨W, F, A, m, Qd, G, h, c⟩ := h
  refine ⟨W, F, A, m, _, G, h, fun F1 A1 v m1 H1 s1 p1 G1 q1 u r1 => ⟨W, F1, A1, m1, _, G1, q1, fun F2 A2 w m2 H2 s2 p2 G2 q2 u2 r2 => ?_⟩⟩
  obtain ⟨x, ex, q2⟩ := onV_elim q2
  obtain ⟨y, ey, q2⟩ := onV_elim q2
  exact hR W F2 A2 m2 σ H2 x y u u2 _ Q G2 (G2.view (RepV.mono s2 p2 r1) ex) (G2.view r2 ey) q2 fun F' H' z w s' G' rz pz => c F' A2 (.d z) m2 H' (s1.trans (s2.trans s')) (pre_trans p1 p2) G' pz w rz
theorem je_op {a b : Expr} {ta tb : DE} {op : Operator} {r : DR2} {pos : Pos} (ho : OpD X (binaryOp op) r) (ha : JE X a ta) (hb : JE X b tb) : JE X (.BinOp a op b pos) (dOp r ta tb) := by
  obtain ⟨R, hO, hR⟩ := ho
  exact (pe_op hO ha hb).imp fun _ _ _ h => lift_op hR h
theorem je_cmp {a b : Expr} {ta tb : DE} {op : CmpOp} {r : DR2} {pos : Pos} (ho : OpD X (compareOp op) r) (ha : JE X a ta) (hb : JE X b tb) (hm : behindInMarks op b = false) : JE X (.Compare a [op] [b] pos) (dOp r ta tb) := by
  obtain ⟨R, hO, hR⟩ := ho
  exact (pe_cmpR hO ha hb hm).imp fun _ _ _ h => lift_op hR h

def dTest (t : DE) : DT := fun m Q => t m fun v m1 => match v with
  | .d (.bl b) => Q b m1
  | _ => False
theorem dTest_elim {v : Vl} {k : Bool → Prop} (h : match v with
  | .d (.bl b) => k b
  | _ => False) : ∃ b, v = .d (.bl b) ∧ k b := by
  split at h
  · exact ⟨_, rfl, h⟩
  · exact h.elim
theorem jt_cmp {a b : Expr} {ta tb : DE} {op : CmpOp} {r : DR2} {pos : Pos} (ho : OpD X (compareOp op) r) (ha : JE X a ta) (hb : JE X b tb) (hm : behindInMarks op b = false) : JT X (.Compare a [op] [b] pos) (dTest (dOp r ta tb)) := by
  obtain ⟨R, hO, hR⟩ := ho
  refine (pt_cmpR hO ha hb hm).imp fun σ H Q h => ?_
  obtain ⟨W, F, A, m, Qd, G, h, c⟩ := h
  refine lift_op hR ⟨W, F, A, m, _, G, h, fun F1 A1 v m1 H1 s1 p1 G1 q1 u r1 => ?_⟩
  obtain ⟨k, rfl, q⟩ := dTest_elim q1
  have r1' : Rep X.K F1 (.bl k) u := r1
  simp only [Rep] at r1'
  exact ⟨k, r1', c F1 A1 k m1 H1 s1 p1 G1 q⟩

def rInt (C : Int → Int → Prop) (g : Int → Int → Dt) : DR2 := fun x y P => match x, y with
  | .int i, .int j => C i j ∧ P (g i j)
  | _, _ => False
theorem rInt_elim {C : Int → Int → Prop} {g : Int → Int → Dt} {x y : Dt} {P : Dt → Prop} (h : rInt C g x y P) : ∃ i j, x = .int i ∧ y = .int j ∧ C i j ∧ P (g i j) := by
  unfold rInt at h
  split at h
  · exact ⟨_, _, rfl, rfl, h⟩
  · exact h.elim
theorem repB_int {K : PySem.W.Frag} {F H : Hp} {i : Int} {u : V} (h : RepB K F H (.int i) u) : u = .int i := by
  have h' : Rep K F (.int i) u := h
  simpa only [Rep] using h'
theorem repB_str {K : PySem.W.Frag} {F H : Hp} {i : Str} {u : V} (h : RepB K F H (.str i) u) : u = .str i := by
  have h' : Rep K F (.str i) u := h
  simpa only [Rep] using h'
theorem repB_bl {K : PySem.W.Frag} {F H : Hp} {i : Bool} {u : V} (h : RepB K F H (.bl i) u) : u = .bl i := by
  have h' : Rep K F (.bl i) u := h
  simpa only [Rep] using h'
theorem repB_non {K : PySem.W.Frag} {F H : Hp} {u : V} (h : RepB K F H .non u) : u = .non := by
  have h' : Rep K F .non u := h
  simpa only [Rep] using h'
theorem opD_int {f : Value → Value → Sem Value} {C : Int → Int → Prop} {g : Int → Int → V} {gd : Int → Int → Dt} (h : OpR X f (rI C g)) (hg : ∀ F i j, Rep X.K F (gd i j) (g i j)) : OpD X f (rInt C gd) :=
  ⟨_, h, fun W F A m σ H x y u v P Q G rx ry q c => by
    obtain ⟨i, j, rfl, rfl, hc, q⟩ := rInt_elim q
    exact ⟨i, j, repB_int rx, repB_int ry, hc, c F H _ _ (Same.refl _) G (hg F i j) q⟩⟩
theorem opD_int0 {f : Value → Value → Sem Value} {g : Int → Int → V} {gd : Int → Int → Dt} (h : OpR X f (rI0 g)) (hg : ∀ F i j, Rep X.K F (gd i j) (g i j)) : OpD X f (rInt (fun _ _ => True) gd) :=
  ⟨_, h, fun W F A m σ H x y u v P Q G rx ry q c => by
    obtain ⟨i, j, rfl, rfl, hc, q⟩ := rInt_elim q
    exact ⟨i, j, repB_int rx, repB_int ry, c F H _ _ (Same.refl _) G (hg F i j) q⟩⟩
theorem o_sub : OpD X (binaryOp .Sub) (rInt (fun _ _ => True) fun i j => .int (i - j)) := opD_int0 op_sub fun _ _ _ => rep_int
def MulOk (i j : Int) : Prop := i.natAbs.log2 + j.natAbs.log2 < 67108864
theorem MulOk.ok {i j : Int} (h : MulOk i j) : IntMulOk i j := by
  have b : ∀ x : Int, Builtin.Int.intBits x ≤ x.natAbs.log2 + 1 := fun x => by
    unfold Builtin.Int.intBits
    split <;> omega
  have h1 := b i
  have h2 := b j
  have h3 : i.natAbs.log2 + j.natAbs.log2 < 67108864 := h
  have e : bitsLine = 134217728 := by decide
  unfold IntMulOk
  intro z
  rw [Bool.and_eq_true] at z
  have z2 := z.2
  unfold Builtin.Int.intTooBig at z2
  have z3 := of_decide_eq_true z2
  rw [e] at z3
  omega
theorem o_mul : OpD X (binaryOp .Mult) (rInt MulOk fun i j => .int (i * j)) := opD_int (C := MulOk) (opI fun _ _ _ _ _ _ _ hc q => mul_int q hc.ok) fun _ _ _ => rep_int
theorem o_mod : OpD X (binaryOp .Mod) (rInt (fun _ j => j ≠ 0) fun i j => .int (i.fmod j)) := opD_int op_modN fun _ _ _ => rep_int
theorem o_pow : OpD X (binaryOp .Pow) (rInt CPow fun i j => .int (i ^ j.toNat)) := opD_int op_pow fun _ _ _ => rep_int
theorem o_lt : OpD X (compareOp .Lt) (rInt (fun _ _ => True) fun i j => .bl (decide (i < j))) := opD_int0 op_lt fun _ _ _ => rep_bl
theorem o_gt : OpD X (compareOp .Gt) (rInt (fun _ _ => True) fun i j => .bl (decide (j < i))) := opD_int0 op_gt fun _ _ _ => rep_bl
theorem o_ge : OpD X (compareOp .GtE) (rInt (fun _ _ => True) fun i j => .bl (decide (j ≤ i))) := opD_int0 op_ge fun _ _ _ => rep_bl
end
end RT

set_option maxRecDepth 100000
set_option maxHeartbeats 4000000
namespace RT
open PySem PySem.Spec PyProof.Rows L2
variable [Gh : Ghost]
section
variable {X : Cx}

theorem rv_int {K : PySem.W.Frag} {F : Hp} {A : List Addr} {i : Int} : RepV K F A (.d (.int i)) (.int i) := rep_int (K := K) (F := F)
theorem rv_bl {K : PySem.W.Frag} {F : Hp} {A : List Addr} {b : Bool} : RepV K F A (.d (.bl b)) (.bl b) := rep_bl (K := K) (F := F)
theorem rv_non {K : PySem.W.Frag} {F : Hp} {A : List Addr} : RepV K F A (.d .non) .non := rep_non (K := K) (F := F)

def Pyl (X : Cx) : Prop := ∀ s : Shared, (∀ b o, X.base.get? b = some o → s.heap.get? b = some o) → PySem.PylongRoom (model X.prog X.w) X.A s
def rFdiv : R2 := rI (fun _ j => j ≠ 0) fun i j => .int (i.fdiv j)
theorem op_fdivA (hp : Pyl X) : OpR X (binaryOp .FloorDiv) rFdiv := by
  intro pins s σ H x y v u Q I rx ry h
  obtain ⟨i, j, rfl, rfl, hc, q⟩ := h
  obtain ⟨t, rfl⟩ := rx
  obtain ⟨t', rfl⟩ := ry
  exact floordiv_int hc ⟨.int _, H, I.tok _, ⟨_, rfl⟩, q⟩ (.inr (hp s I.bk))
theorem o_fdiv (hp : Pyl X) : OpD X (binaryOp .FloorDiv) (rInt (fun _ j => j ≠ 0) fun i j => .int (i.fdiv j)) := opD_int (op_fdivA hp) fun _ _ _ => rep_int

def rU (f : Dt → (Dt → Prop) → Prop) (t : DE) : DE := fun m Q => t m fun v m1 => onD v fun x => f x fun z => Q (.d z) m1
def rNeg : Dt → (Dt → Prop) → Prop := fun x P => match x with
  | .int i => P (.int (-i))
  | _ => False
theorem je_neg {a : Expr} {ta : DE} {pos : Pos} (ha : JE X a ta) : JE X (.UnaryOp .USub a pos) (rU rNeg ta) := by
  refine (pe_un un_neg ha).imp fun σ H Q h => ?_
  obtain ⟨W, F, A, m, Qd, G, h, c⟩ := h
  refine ⟨W, F, A, m, _, G, h, fun F1 A1 v m1 H1 s1 p1 G1 q1 u r1 => ?_⟩
  obtain ⟨x, rfl, q⟩ := onD_elim q1
  cases x with
  | int i =>
    have e : u = .int i := repB_int (H := H1) r1
    exact ⟨i, e, c F1 A1 _ m1 H1 s1 p1 G1 q _ rv_int⟩
  | _ => exact (show False from q).elim

theorem repB_tup {K : PySem.W.Frag} {F H : Hp} {ds : List Dt} {u : V} (h : RepB K F H (.tup ds) u) : ∃ a vs, u = .ref a ∧ SqT K F a vs ∧ Reps K F ds vs := by
  have h' : Rep K F (.tup ds) u := h
  simpa only [Rep] using h'

def truD : Dt → (Bool → Prop) → Prop := fun x P => match x with
  | .non => P false
  | .bl b => P b
  | .int i => P (i != 0)
  | .str y => y.length ≤ sizeLine ∧ P ((y.length : Int) != 0)
  | .lst xs => P (!xs.isEmpty)
  | .tup xs => P (!xs.isEmpty)
def dTru (t : DE) : DT := fun m Q => t m fun v m1 => onV m1 v fun x => truD x fun b => Q b m1
theorem empty_eq {K : PySem.W.Frag} {F : Hp} {ds : List Dt} {vs : List V} (r : Reps K F ds vs) : ds.isEmpty = vs.isEmpty := by
  have e := r.length
  cases ds <;> cases vs <;> first | rfl | (simp at e)
theorem jt_tru {a : Expr} {ta : DE} (ha : JE X a ta) (he : ∀ whole, isTrue a X.env whole = (do let v ← whole; standAt a.pos; holding [v] (truthy v)) := by intro _; rfl) : JT X a (dTru ta) := by
  refine (pt_truth ha he).imp fun σ H Q h => ?_
  obtain ⟨W, F, A, m, Qd, G, h, c⟩ := h
  refine ⟨W, F, A, m, _, G, h, fun F1 A1 v m1 H1 s1 p1 G1 q1 u r1 => ?_⟩
  obtain ⟨x, ex, q⟩ := onV_elim q1
  have rb := G1.view r1 ex
  cases x with
  | non =>
    rw [repB_non rb]
    exact ⟨false, rfl, c F1 A1 _ m1 H1 s1 p1 G1 q⟩
  | bl b =>
    rw [repB_bl rb]
    exact ⟨b, rfl, c F1 A1 _ m1 H1 s1 p1 G1 q⟩
  | int i =>
    rw [repB_int rb]
    exact ⟨_, rfl, c F1 A1 _ m1 H1 s1 p1 G1 q⟩
  | str y =>
    rw [repB_str rb]
    exact ⟨_, ⟨q.1, rfl⟩, c F1 A1 _ m1 H1 s1 p1 G1 q.2⟩
  | lst xs =>
    obtain ⟨a, vs, rfl, hs, rs⟩ := rb
    have q' : Qd (!xs.isEmpty) m1 := q
    rw [empty_eq rs] at q'
    exact ⟨_, .inl ⟨vs, .inl hs, rfl⟩, c F1 A1 _ m1 H1 s1 p1 G1 q'⟩
  | tup xs =>
    obtain ⟨a, vs, rfl, hs, rs⟩ := repB_tup rb
    have hs := seqT_mono G1.ext hs
    have q' : Qd (!xs.isEmpty) m1 := q
    rw [empty_eq rs] at q'
    exact ⟨_, .inr (.inl ⟨vs, hs, rfl⟩), c F1 A1 _ m1 H1 s1 p1 G1 q'⟩
def dAnd (t u : DT) : DT := fun m Q => t m fun b m1 => if b = true then u m1 Q else Q false m1
def dNot (t : DT) : DT := fun m Q => t m fun b m1 => Q (!b) m1
variable {a b : Expr} {rest : List Expr} {pos : Pos} {t u : DT} {ta tb : DE}
theorem jw_and1 (h : JT X a t) : JW X (.BoolOp .And [a] pos) t := pw_and1 h
theorem jw_and (h : JT X a t) (h' : JW X (.BoolOp .And (b :: rest) pos) u) : JW X (.BoolOp .And (a :: b :: rest) pos) (dAnd t u) := by
  refine (pw_and h h').imp fun σ H Q hh => ?_
  obtain ⟨W, F, A, m, Qd, G, h, c⟩ := hh
  refine ⟨W, F, A, m, _, G, h, fun F1 A1 v m1 H1 s1 p1 G1 q1 => ?_⟩
  cases v with
  | true => exact ⟨W, F1, A1, m1, _, G1, q1, fun F2 A2 w m2 H2 s2 p2 G2 q2 => c F2 A2 w m2 H2 (s1.trans s2) (pre_trans p1 p2) G2 q2⟩
  | false => exact c F1 A1 false m1 H1 s1 p1 G1 q1
theorem jw_pt {e : Expr} (h : JW X e t) : JT X e t := PW.pt h
theorem jt_not (h : JT X a t) : JT X (.UnaryOp .Not a pos) (dNot t) := by
  refine (pt_not h).imp fun σ H Q hh => ?_
  obtain ⟨W, F, A, m, Qd, G, h, c⟩ := hh
  exact ⟨W, F, A, m, _, G, h, fun F1 A1 v m1 H1 s1 p1 G1 q1 => c F1 A1 _ m1 H1 s1 p1 G1 q1⟩

def dOrV (t u : DE) : DE := fun m Q => t m fun v m1 => match v with
  | .d (.bl b) => if b = true then Q (.d (.bl true)) m1 else u m1 Q
  | _ => False

def isN : Dt → Bool
  | .non => true
  | _ => false
def dIsN (t : DE) : DE := fun m Q => t m fun v m1 => onD v fun x => Q (.d (.bl (isN x))) m1
def dNotN (t : DE) : DE := fun m Q => t m fun v m1 => onD v fun x => Q (.d (.bl (!isN x))) m1

def dNil : DA := fun m Q => Q [] m
def dCons (t : DE) (ts : DA) : DA := fun m Q => t m fun v m1 => ts m1 fun vs m2 => Q (v :: vs) m2
theorem ja_nil : JA X [] dNil := pa_nil.imp fun σ H Q ⟨W, F, A, m, Qd, G, h, c⟩ => c F A [] m H (Same.refl _) (pre_refl _) G h [] rfl
theorem ja_cons {e : Expr} {es : List Expr} {ts : DA} (h : JE X e ta) (hs : JA X es ts) (he : starEach (e :: es) X.env = (false, eval e X.env) :: starEach es X.env := by rfl) : JA X (e :: es) (dCons ta ts) := by
  refine (pa_cons h hs he).imp fun σ H Q hh => ?_
  obtain ⟨W, F, A, m, Qd, G, h, c⟩ := hh
  refine ⟨W, F, A, m, _, G, h, fun F1 A1 v m1 H1 s1 p1 G1 q1 u r1 => ⟨W, F1, A1, m1, _, G1, q1, fun F2 A2 vs m2 H2 s2 p2 G2 q2 us r2 => ?_⟩⟩
  exact c F2 A2 (v :: vs) m2 H2 (s1.trans s2) (pre_trans p1 p2) G2 q2 (u :: us) ⟨u, us, rfl, RepV.mono s2 p2 r1, r2⟩
def onDs : List Vl → (List Dt → Prop) → Prop
  | [], k => k []
  | .d x :: r, k => onDs r fun xs => k (x :: xs)
  | .c _ :: _, _ => False
theorem onDs_elim : ∀ {vs : List Vl} {k : List Dt → Prop}, onDs vs k → ∃ xs, vs = xs.map .d ∧ k xs
  | [], _, h => ⟨[], rfl, h⟩
  | .d x :: r, k, h => by
    obtain ⟨xs, e, q⟩ := onDs_elim (vs := r) h
    exact ⟨x :: xs, by rw [e]; rfl, q⟩
  | .c _ :: _, _, h => h.elim
theorem reps_of {K : PySem.W.Frag} {F : Hp} {A : List Addr} : ∀ {xs : List Dt} {us : List V}, RepVs K F A (xs.map .d) us → Reps K F xs us
  | [], us, h => by
    have e : us = [] := h
    rw [e]
    exact .nil
  | x :: xs, us, h => by
    obtain ⟨u, r, rfl, h1, h2⟩ := h
    exact .cons h1 (reps_of h2)

def dTup (ts : DA) : DE := fun m Q => ts m fun vs m1 => vs.length ≤ sizeLine ∧ onDs vs fun xs => Q (.d (.tup xs)) m1
def dLst (ts : DA) : DE := fun m Q => ts m fun vs m1 => vs.length ≤ sizeLine ∧ onDs vs fun xs => Q (.d (.lst xs)) m1
def dLstO (ts : DA) : DE := fun m Q => ts m fun vs m1 => vs.length ≤ sizeLine ∧ onDs vs fun xs => Q (.c m1.st.length) ⟨m1.sl, m1.st ++ [.lst xs]⟩
theorem je_tup {es : List Expr} {ts : DA} {k} (h : JA X es ts) : JE X (.Tuple es k pos) (dTup ts) := by
  refine (pe_tup h).imp fun σ H Q hh => ?_
  obtain ⟨W, F, A, m, Qd, G, h, c⟩ := hh
  refine ⟨W, F, A, m, _, G, h, fun F1 A1 vs m1 H1 s1 p1 G1 q1 us r1 => ⟨by rw [← r1.length]; exact q1.1, fun p np => ?_⟩⟩
  obtain ⟨xs, rfl, q⟩ := onDs_elim q1.2
  have rs := reps_of r1
  have s2 := same_upd (o := .tup us) (G1.ext.free np)
  refine c (upd F1 p (.tup us)) A1 _ m1 _ (s1.trans s2) p1 (G1.laid np) q _ ?_
  show Rep X.K _ (.tup xs) _
  simp only [Rep]
  exact ⟨p, us, rfl, SqT.of upd_same, Reps.mono s2 rs⟩
theorem je_lst {es : List Expr} {ts : DA} (h : JA X es ts) : JE X (.List es pos) (dLst ts) := by
  refine (pe_lst h).imp fun σ H Q hh => ?_
  obtain ⟨W, F, A, m, Qd, G, h, c⟩ := hh
  refine ⟨W, F, A, m, _, G, h, fun F1 A1 vs m1 H1 s1 p1 G1 q1 us r1 => ⟨by rw [← r1.length]; exact q1.1, fun p np => ?_⟩⟩
  obtain ⟨xs, rfl, q⟩ := onDs_elim q1.2
  have rs := reps_of r1
  have s2 := same_upd (o := .lst us) (G1.ext.free np)
  refine c (upd F1 p (.lst us)) A1 _ m1 _ (s1.trans s2) p1 (G1.laid np) q _ ?_
  show Rep X.K _ (.lst xs) _
  simp only [Rep]
  exact ⟨p, us, rfl, Rd.of upd_same, Reps.mono s2 rs⟩
theorem je_lstO {es : List Expr} {ts : DA} (h : JA X es ts) : JE X (.List es pos) (dLstO ts) := by
  refine (pe_lst h).imp fun σ H Q hh => ?_
  obtain ⟨W, F, A, m, Qd, G, h, c⟩ := hh
  refine ⟨W, F, A, m, _, G, h, fun F1 A1 vs m1 H1 s1 p1 G1 q1 us r1 => ⟨by rw [← r1.length]; exact q1.1, fun p np => ?_⟩⟩
  obtain ⟨xs, rfl, q⟩ := onDs_elim q1.2
  refine c F1 (A1 ++ [p]) _ _ _ s1 (pre_trans p1 ⟨[p], rfl⟩) (G1.own np (reps_of r1)) q _ ⟨p, ?_, rfl⟩
  rw [← G1.len]
  simp

def onO {α : Type} (o : Option α) (P : α → Prop) : Prop := match o with
  | some z => P z
  | none => False
theorem onO_elim {α : Type} {o : Option α} {P : α → Prop} (h : onO o P) : ∃ z, o = some z ∧ P z := by
  cases o with
  | none => exact h.elim
  | some z => exact ⟨z, rfl, h⟩
theorem onO_mk {α : Type} {o : Option α} {P : α → Prop} {z : α} (e : o = some z) (h : P z) : onO o P := by
  rw [e]
  exact h
def rIx : DR2 := fun x y P => match x, y with
  | .lst xs, .int i => onO (atI xs i) P
  | .tup xs, .int i => onO (atI xs i) P
  | .str s, .int i => s.length ≤ sizeLine ∧ onO (atI s.cps.toList i) fun c => P (.str ⟨#[c]⟩)
  | _, _ => False
theorem atI_reps {K : PySem.W.Frag} {F : Hp} {xs : List Dt} {vs : List V} {i : Int} {z : Dt} (r : Reps K F xs vs) (h : atI xs i = some z) : ∃ v, atI vs i = some v ∧ Rep K F z v := by
  unfold atI at h ⊢
  rw [← r.length]
  cases q : ixN xs.length i with
  | none =>
    rw [q] at h
    cases h
  | some j =>
    rw [q] at h
    exact r.get (i := j) h
theorem val_ix : ValD X.K (L2.rIx X.K) rIx := by
  intro W F A m σ H x y u v P Q G rx ry q c
  have go : ∀ z w, Rep X.K F z w → P z → Q w H := fun z w rz pz => c F H z w (Same.refl _) G rz pz
  unfold rIx at q
  split at q
  · obtain ⟨a, vs, rfl, hs, rs⟩ := rx
    obtain ⟨z, e, q⟩ := onO_elim q
    obtain ⟨w, hw, rz⟩ := atI_reps rs e
    exact .inl ⟨a, vs, _, w, rfl, repB_int ry, .inl hs, hw, go z w rz q⟩
  · obtain ⟨a, vs, rfl, hs, rs⟩ := repB_tup rx
    have hs := seqT_mono G.ext hs
    obtain ⟨z, e, q⟩ := onO_elim q
    obtain ⟨w, hw, rz⟩ := atI_reps rs e
    exact .inr (.inl ⟨a, vs, _, w, rfl, repB_int ry, hs, hw, go z w rz q⟩)
  · obtain ⟨hl, q⟩ := q
    obtain ⟨z, e, q⟩ := onO_elim q
    exact .inr (.inr ⟨_, _, z, repB_str rx, repB_int ry, hl, e, go _ _ rep_str q⟩)
  · exact q.elim
theorem je_ix (ha : JE X a ta) (hb : JE X b tb) (hs : PlainIx b := by intro _ _; rfl) : JE X (.Subscript a b pos) (dOp rIx ta tb) :=
  (pe_ix ix_seq ha hb hs).imp fun _ _ _ h => lift_op val_ix h
end
end RT

set_option maxRecDepth 100000
set_option maxHeartbeats 4000000
namespace RT
open PySem PySem.Spec PyProof.Rows L2
section
variable [Gh : Ghost]

structure GRoom (k : Nat) (A : Around) : Prop where
  room : Room k A
  gd : A.guards = some []
  dp : A.depth + 3 * k + 160 < recursionLimit
theorem GRoom.mono {j k : Nat} {A : Around} (r : GRoom k A) (h : j ≤ k) : GRoom j A := ⟨r.room.mono h, r.gd, by have := r.dp; omega⟩
theorem GRoom.deeper {k : Nat} {A : Around} (r : GRoom (k + 1) A) (env : Env) : GRoom k (A.deeper env) :=
  ⟨r.room.deeper env, r.gd, by have := r.dp; show A.depth + 1 + 3 * k + 160 < _; omega⟩
theorem GRoom.hu {k : Nat} {A : Around} (r : GRoom k A) : A.units + 64 < cLine := r.room.units
structure BaseOk (K : PySem.W.Frag) (mg : Str → Option Value) (base : Heap) : Prop where
  seer : base.NoSeer
  tb : ∀ q ∈ tabsK K, GxR.TabB base mg q.1 q.2
def CodeIs (K : PySem.W.Frag) (f : Addr) (cdv : Value) : Prop := ∃ (oc : Value) (od : Option Addr) (fd : FuncData) (osl : Array (Option Value)), K.lookup f = some ⟨oc, od, .func fd, osl⟩ ∧ fd.code = cdv
structure Amb (k : Nat) (X : Cx) : Prop where
  rm : GRoom k X.A
  py : Pyl X
  tb : ∀ q ∈ tabsK X.K, GxR.TabB X.base X.mg q.1 q.2
theorem Amb.mono {j k : Nat} {X : Cx} (r : Amb k X) (h : j ≤ k) : Amb j X := ⟨r.rm.mono h, r.py, r.tb⟩
theorem Amb.hu {k : Nat} {X : Cx} (r : Amb k X) : X.A.units + 64 < cLine := r.rm.room.units

structure Fnn (P : Program) (w : World) (K : PySem.W.Frag) (mg : Str → Option Value) (base : Heap) (CX : CXT) (k : Nat) (f : Addr) (fd : FuncData) (ps : List Str) (sp : Sp) : Prop where
  len : ∀ vs H Q E, sp vs H Q E → vs.length = ps.length
  run : ∀ (A : Around) (outer : List Env) (s : Shared) (H : Hp) (args : Args) (us : List Value) (vs : List V) (Q : VK) (E : XK), GRoom k A → Env0 P w K mg base A outer s H → BindsTo s fd args (ps.zip us) → Vals vs us → sp vs H Q E →
    codeAny (model P w) A (.call (.ref f) args) (CR CX outer P w H s Q E) s
theorem Fnn.mono {P : Program} {w : World} {K : PySem.W.Frag} {mg : Str → Option Value} {base : Heap} {CX : CXT} {j k : Nat} {f : Addr} {fd : FuncData} {ps : List Str} {sp : Sp} (F : Fnn P w K mg base CX j f fd ps sp) (h : j ≤ k) :
    Fnn P w K mg base CX k f fd ps sp := ⟨F.len, fun A outer s H args us vs Q E hr => F.run A outer s H args us vs Q E (hr.mono h)⟩
theorem Fnn.imp {P : Program} {w : World} {K : PySem.W.Frag} {mg : Str → Option Value} {base : Heap} {CX : CXT} {k : Nat} {f : Addr} {fd : FuncData} {ps : List Str} {sp sp' : Sp} (F : Fnn P w K mg base CX k f fd ps sp)
    (h : ∀ vs H Q E, sp' vs H Q E → sp vs H Q E) : Fnn P w K mg base CX k f fd ps sp' :=
  ⟨fun vs H Q E q => F.len vs H Q E (h _ _ _ _ q), fun A outer s H args us vs Q E hr he hb hv hs => F.run A outer s H args us vs Q E hr he hb hv (h _ _ _ _ hs)⟩
section
variable {X : Cx} {CX : CXT} {k : Nat} {f C : Addr} {fd : FuncData} {ps : List Str} {sp : Sp} {dvs : List V} {ds : List Value} {E : XK} {x m : Str} {p pos apos : Pos} {e o : Expr} {es : List Expr} {ta : TE} {t : TA}
theorem run_fnn {pins : List (Addr × Obj)} {σ : L2.St} {H : Hp} {s : Shared} {Q : VK} {us : List Value} {vs : List V} (F : Fnn X.prog X.w X.K X.mg X.base CX k f fd ps sp) (hr : GRoom k X.A) (hb : Binds X.K fd ps ds) (hd : Vals dvs ds) (hx : Passes CX X E)
    (I : Inv X pins σ H s) (r : Vals vs us) (h : sp (vs ++ dvs) H Q E) : wpAny (model X.prog X.w) X.A (call (.ref f) us) (EP X pins σ Q) X.xe s := by
  have r2 : Vals (vs ++ dvs) (us ++ ds) := r.append hd
  have hl : (us ++ ds).length = ps.length := by rw [← r2.length]; exact F.len _ _ _ _ h
  refine wpAny_call (codeAny_mono (F.run X.A X.stack s H ⟨us, []⟩ (us ++ ds) (vs ++ dvs) Q E hr I.env0 (hb s us I.kIn hl) r2 h) fun r s' hq => ?_)
  cases r with
  | error e => exact hx pins σ H s e s' I hq
  | ok fl =>
    cases fl with
    | ret u => exact I.after hq
    | next => exact False.elim hq
    | brk => exact False.elim hq
    | cont => exact False.elim hq
theorem pn_call (F : Fnn X.prog X.w X.K X.mg X.base CX k f fd ps sp) (hr : GRoom k X.A) (hg : Gl X x) (hm : X.mg x = some (.ref f)) (hk : PySem.W.keepIn X.K (.ref f) = true) (hb : Binds X.K fd ps ds) (hd : Vals dvs ds) (hx : Passes CX X E)
    (ha : PA X (e :: es) t) (hdb : (x == ("__debug__" : Str)) = false := by decide) (he : starEach (e :: es) X.env = (false, eval e X.env) :: starEach es X.env := by rfl) (hpl : (backTo pos (starEach es X.env)).any (·.1) = false := by rfl) :
    PE X (.Call (.Name x p) (e :: es) [] pos) (tCall sp dvs E t) := by
  refine ⟨fun pins s σ H Q I h => ?_⟩
  refine wpAny_Call_Name_kw (ld_glob I hg hm ?_ hdb)
  refine PySem.W.callWith_K (h₀ := X.base) I.ok.mod.kin hk (thn (ha.run pos pins s σ H _ I h) fun us s1 ⟨vs, H1, I1, r, q⟩ => ⟨I1.kIn, ?_⟩) he hpl
  exact run_fnn F hr hb hd hx I1 r q
end
theorem fnn_of {CX : CXT} {P : Program} {w : World} {K : PySem.W.Frag} {mg : Str → Option Value} {base : Heap} {k : Nat} {f : Addr} {name qual : Str} {params : Arguments} {body : List Stmt} {scope : Scope} {dV kV doc pm cdv ct oc : Value} {an od : Option Addr}
    {osl : Array (Option Value)} {N ps : List Str} {sp : Sp} (hns : BaseOk K mg base) (htr : P.given.tree = none) (lk : K.lookup f = some ⟨oc, od, .func (PySem.W.fnOf name qual params body scope dV kV doc pm an cdv ct), osl⟩) (hcd : PySem.W.codeIn K cdv qual = true) (S : FnScope N ps scope)
    (len : ∀ vs H Q E, sp vs H Q E → vs.length = ps.length)
    (hbody : ∀ (A : Around) (outer : List Env) (s : Shared) (H : Hp) (vs : List V) (Q : VK) (E : XK), Amb k (cxOf CX P w K mg base N qual scope f cdv A outer s H E) → sp vs H Q E →
      ∃ t, PSs (cxOf CX P w K mg base N qual scope f cdv A outer s H E) body t ∧ t { nx := fun _ H' => Q .non H', rt := Q } (L2.start N vs) H) :
    Fnn P w K mg base CX (k + 1) f (PySem.W.fnOf name qual params body scope dV kV doc pm an cdv ct) ps sp := by
  refine ⟨len, fun A outer s H args us vs Q E hr e0 hb r hsp => ?_⟩
  have hl := len _ _ _ _ hsp
  have KX : K.In s.heap := e0.mod.kin.keeps fun b o e => (e0.bs b o e).1
  have lim : s.heap.NoLimit := e0.mod.nolimit.keeps fun b o e => (e0.bs b o e).1
  have hkind : ∀ y ∈ ps.zip us, scope.names.lookup y.1 = some .local ∨ (scope.names.lookup y.1 = some .cell ∧ ((cellsFrom (s.heap.objs.size + 1) scope.names []).lookup y.1).isSome = true) := fun ⟨n, v⟩ hy => by
    rcases S.par n (List.of_mem_zip hy).1 with q | q
    · exact .inl q
    · exact .inr ⟨q, PySem.W.cellsFrom_some _ _ _ (.inl q)⟩
  refine codeAny_call_function hr.room.depth (KX _ _ lk) rfl S.co S.gen rfl (PySem.W.codeRec_of KX hcd) (hb _ _ _ _ ?_)
  refine wpAny_newFunctionEnv_cells S.kind hkind fun env he s1 x => ?_
  subst he
  refine ⟨lim.keeps x.toInCall.keep, codeAny_func ?_⟩
  have amb : Amb k (cxOf CX P w K mg base N qual scope f cdv A outer s H E) := ⟨hr.deeper _, fun s' ks =>
    PySem.PylongRoom.of (e0.mod.nolimit.keeps ks) (by have := hr.dp; show A.depth + 1 + Builtin.pylongFrames < recursionLimit; have e : Builtin.pylongFrames = 100 := rfl; omega)
      (PySem.SeerAt.of (hns.seer.keeps ks) htr (PySem.Around.frames_deeper e0.frames) S.gen S.co rfl rfl), hns.tb⟩
  obtain ⟨t, ht, hq⟩ := hbody A outer s H vs Q E amb hsp
  have I : Inv (cxOf CX P w K mg base N qual scope f cdv A outer s H E) [] (L2.start N vs) H s1 := inv_start S hr.room.hd e0 hl r x
  refine wpAny_mono (ht.run [] s1 (L2.start N vs) H _ I hq) (fun fl s' hs => ?_) fun e s' hs => hs
  have fin : ∀ {σ' : L2.St} {H' : Hp} {v : V} {u : Value}, Inv (cxOf CX P w K mg base N qual scope f cdv A outer s H E) [] σ' H' s' → RelV v u → Q v H' → CE outer P w H s Q u s' :=
    fun {σ' H' v u} J rv q => ⟨v, H', J.os, J.bare, J.base, J.hok, rv, q⟩
  cases fl with
  | ret u =>
    obtain ⟨v, σ', H', J, rv, q⟩ := hs
    exact fin J rv q
  | next =>
    obtain ⟨σ', H', J, q⟩ := hs
    exact fin (v := V.non) (u := Value.none) J rfl q
  | brk =>
    obtain ⟨_, _, _, q⟩ := hs
    exact False.elim q
  | cont =>
    obtain ⟨_, _, _, q⟩ := hs
    exact False.elim q

abbrev FSpec := List Vl → List Cell → (Vl → List Cell → Prop) → Prop
abbrev GoodT := @Good Ghost.tt
def liftSp (K : PySem.W.Frag) (sp : FSpec) : Sp := fun vs H Q _ => ∃ W F A st args Qd, GoodT K W F A ⟨[], st⟩ [] H ∧ RepVs K F A args vs ∧ sp args st Qd ∧
  ∀ F' A' st' H' r u, Same F F' → A <+: A' → GoodT K W F' A' ⟨[], st'⟩ [] H' → RepV K F' A' r u → Qd r st' → Q u H'
section
variable {K : PySem.W.Frag} {W F F' : Hp} {A A' : List Addr} {m : M} {σ : L2.St} {H H' : Hp}
theorem Good.bare (G : Good K W F A m σ H) : GoodT K W F A ⟨[], m.st⟩ [] H := by
  obtain ⟨e, h, d, sl, s, l, st, nd, tb, gh⟩ := G
  exact @Good.mk Ghost.tt _ _ _ _ _ _ _ e h d rfl (fun i v e => by simp at e) l st nd tb True.intro
theorem Good.back {st' : List Cell} (G : Good K W F A m σ H) (s : Same F F') (p : A <+: A') (G' : GoodT K W F' A' ⟨[], st'⟩ [] H') : Good K W F' A' ⟨m.sl, st'⟩ σ H' := by
  obtain ⟨e', h', d', _, _, l', st', nd', tb', _⟩ := G'
  exact ⟨e', h', d', G.slen, fun i v e => let ⟨u, h1, h2⟩ := G.sl i v e; ⟨u, h1, RepV.mono s p h2⟩, l', st', nd', tb', Ghost.mono G.gh (SameO.refl _) s p⟩
end
end
section
variable {K : PySem.W.Frag} {W F F' : Hp} {A A' : List Addr} {m : M} {σ : L2.St} {H H' : Hp}
theorem Good.take (G : GoodT K W F A m σ H) (n : Nat) : GoodT K W F (A.take n) ⟨[], m.st.take n⟩ [] H := by
  have q : ∀ k c, (m.st.take n)[k]? = some c → k < n ∧ m.st[k]? = some c := fun k c e => by
    rw [List.getElem?_take] at e
    by_cases hk : k < n
    · rw [if_pos hk] at e
      exact ⟨hk, e⟩
    · rw [if_neg hk] at e
      cases e
  have ra : ∀ k, k < n → (A.take n)[k]? = A[k]? := fun k hk => by rw [List.getElem?_take, if_pos hk]
  refine ⟨G.ext, G.hid, G.dj, rfl, fun i v e => by simp at e, by simp [G.len], fun k xs e => ?_, fun j k xs ys a e1 e2 h1 h2 => ?_, G.tb, True.intro⟩
  · obtain ⟨hk, e'⟩ := q k _ e
    obtain ⟨a, vs, p1, p2⟩ := G.st k xs e'
    exact ⟨a, vs, (ra k hk).trans p1, p2⟩
  · obtain ⟨hj, e1'⟩ := q j _ e1
    obtain ⟨hk, e2'⟩ := q k _ e2
    exact G.nd j k xs ys a e1' e2' ((ra j hj).symm.trans h1) ((ra k hk).symm.trans h2)
theorem repVs_slots {args : List Vl} {vs : List V} (r : RepVs K F A args vs) (n : Nat) : ∀ (i : Nat) (v : Vl), (args.map some ++ List.replicate n none)[i]? = some (some v) → ∃ u : V, (vs.map some ++ List.replicate n (none : Option V))[i]? = some (some u) ∧ RepV K F A v u := by
  induction args generalizing vs with
  | nil =>
    intro i v e
    simp only [List.map_nil, List.nil_append, List.getElem?_replicate] at e
    split at e <;> cases e
  | cons a r' ih =>
    obtain ⟨u, us, rfl, h1, h2⟩ := r
    intro i v e
    cases i with
    | zero =>
      cases e
      exact ⟨u, rfl, h1⟩
    | succ j => exact ih h2 j v e
def retD (kp : Bool) (n : Nat) (Qd : Vl → List Cell → Prop) : Vl → M → Prop := fun v m => match v with
  | .d x => Qd (.d x) (m.st.take n)
  | .c k => if k < n then Qd (.c k) (m.st.take n) else onC m.st k fun xs => if kp = true then Qd (.c n) (m.st.take n ++ [.lst xs]) else Qd (.d (.lst xs)) (m.st.take n)
def endsOf (kp : Bool) (n : Nat) (Qd : Vl → List Cell → Prop) : DEnds := ⟨retD kp n Qd (.d .non), retD kp n Qd, fun _ => False, fun _ => False⟩
def startM (N : Nat) (args : List Vl) (st : List Cell) : M := ⟨args.map some ++ List.replicate (N - args.length) none, st⟩
theorem pre_take {A0 A' : List Addr} (p : A0 <+: A') : A'.take A0.length = A0 := by
  obtain ⟨t, rfl⟩ := p
  simp
theorem retD_ok {kp : Bool} {A0 : List Addr} {F0 : Hp} {n : Nat} {Qd : Vl → List Cell → Prop} {Q : VK} {v : Vl} {u : V} (hn : A0.length = n) (sF : Same F0 F) (p : A0 <+: A) (G : GoodT K W F A m σ H) (r : RepV K F A v u) (q : retD kp n Qd v m)
    (c : ∀ F' A' st' H' r u, Same F0 F' → A0 <+: A' → GoodT K W F' A' ⟨[], st'⟩ [] H' → RepV K F' A' r u → Qd r st' → Q u H') : Q u H := by
  have eA : A.take n = A0 := by rw [← hn]; exact pre_take p
  have G1 := G.take n
  rw [eA] at G1
  cases v with
  | d x => exact c F A0 _ H (.d x) u sF (pre_refl _) G1 r q
  | c k =>
    obtain ⟨a, ha, rfl⟩ := r
    have q' : if k < n then Qd (.c k) (m.st.take n) else onC m.st k fun xs => if kp = true then Qd (.c n) (m.st.take n ++ [.lst xs]) else Qd (.d (.lst xs)) (m.st.take n) := q
    by_cases hk : k < n
    · rw [if_pos hk] at q'
      refine c F A0 _ H (.c k) _ sF (pre_refl _) G1 ⟨a, ?_, rfl⟩ q'
      rw [← eA, List.getElem?_take, if_pos hk]
      exact ha
    · rw [if_neg hk] at q'
      obtain ⟨xs, e, q'⟩ := onC_elim q'
      · obtain ⟨a', vs, h1, h2, h3, h4, h5⟩ := G.st k xs e
        rw [ha] at h1
        cases h1
        have old : ∀ (j : Nat) (ys : List Dt) (b : Addr), (m.st.take n)[j]? = some (Cell.lst ys) → A0[j]? = some b → b ≠ a := fun j ys b e1 e2 z => by
          rw [List.getElem?_take] at e1
          by_cases hj : j < n
          · rw [if_pos hj] at e1
            have e3 : A[j]? = some b := by
              rw [← eA, List.getElem?_take, if_pos hj] at e2
              exact e2
            have := G.nd j k ys xs a e1 e (by rw [← z]; exact e3) ha
            omega
          · rw [if_neg hj] at e1
            cases e1
        have nlen : (m.st.take n).length = n := by rw [← G1.len]; exact hn
        split at q'
        · -- the caller's own
          refine c F (A0 ++ [a]) _ H (.c n) _ sF ⟨[a], rfl⟩ ?_ ⟨a, ?_, rfl⟩ q'
          · have sp : ∀ j c, (m.st.take n ++ [Cell.lst xs])[j]? = some c → (j < n ∧ (m.st.take n)[j]? = some c) ∨ (j = n ∧ c = .lst xs) := fun j c e => by
              by_cases hj : j < n
              · exact .inl ⟨hj, by rw [List.getElem?_append_left (by rw [nlen]; exact hj)] at e; exact e⟩
              · have hl := (List.getElem?_eq_some_iff.mp e).1
                rw [List.length_append, nlen, List.length_singleton] at hl
                have ej : j = n := by omega
                subst ej
                rw [List.getElem?_append_right (by rw [nlen]; exact Nat.le_refl _), nlen, Nat.sub_self] at e
                exact .inr ⟨rfl, (Option.some.inj e).symm⟩
            have aold : ∀ j, j < n → (A0 ++ [a])[j]? = A0[j]? := fun j hj => List.getElem?_append_left (by rw [hn]; exact hj)
            have anew : (A0 ++ [a])[n]? = some a := by rw [← hn]; simp
            refine ⟨G.ext, G.hid, G.dj, rfl, fun i v e => by simp at e, by rw [List.length_append, List.length_append, nlen, hn]; rfl, fun j ys e => ?_, fun i j ys zs b e1 e2 p1 p2 => ?_, G.tb, True.intro⟩
            · rcases sp j _ e with ⟨hj, e'⟩ | ⟨rfl, ec⟩
              · obtain ⟨b, ws, q1, q2⟩ := G1.st j ys e'
                exact ⟨b, ws, (aold j hj).trans q1, q2⟩
              · cases ec
                exact ⟨a, vs, anew, h2, h3, h4, h5⟩
            · rcases sp i _ e1 with ⟨hi, e1'⟩ | ⟨rfl, _⟩
              · rcases sp j _ e2 with ⟨hj, e2'⟩ | ⟨rfl, _⟩
                · exact G1.nd i j ys zs b e1' e2' ((aold i hi).symm.trans p1) ((aold j hj).symm.trans p2)
                · rw [anew] at p2
                  cases p2
                  exact (old i ys _ e1' ((aold i hi).symm.trans p1) rfl).elim
              · rcases sp j _ e2 with ⟨hj, e2'⟩ | ⟨rfl, _⟩
                · rw [anew] at p1
                  cases p1
                  exact (old j zs _ e2' ((aold j hj).symm.trans p2) rfl).elim
                · rfl
          · rw [← hn]
            simp
        · -- plain data
          have s2 : Same F (upd F a (.lst vs)) := same_upd h4
          refine c (upd F a (.lst vs)) A0 _ H (.d (.lst xs)) _ (sF.trans s2) (pre_refl _) ⟨fun b x z => ?_, G.hid, fun b x z => by rw [upd_ne (fun y => by rw [y, h5] at z; cases z)]; exact G.dj b x z, rfl, fun i v e => by simp at e, G1.len, fun j ys e' => ?_, G1.nd, fun q hq => ⟨(G.tb q hq).1, by rw [upd_ne (tab_ne (G.tb q hq).1 h2)]; exact (G.tb q hq).2.1, (G.tb q hq).2.2⟩, True.intro⟩ ?_ q'
          · by_cases hb : b = a
            · subst hb
              rw [upd_same] at z
              cases z
              exact h2
            · rw [upd_ne hb] at z
              exact G.ext _ _ z
          · obtain ⟨b, ws, q1, q2, q3, q4⟩ := G1.st j ys e'
            exact ⟨b, ws, q1, q2, Reps.mono s2 q3, by rw [upd_ne (old j ys b e' q1)]; exact q4.1, q4.2⟩
          · show Rep K _ (.lst xs) _
            simp only [Rep]
            exact ⟨a, vs, rfl, Rd.of upd_same, Reps.mono s2 h3⟩
end

section
variable [Gh : Ghost]
def dCall (sp : FSpec) (dargs : List Vl) (ts : DA) : DE := fun m Q => ts m fun vs m1 => sp (vs ++ dargs) m1.st fun r st' => Q r ⟨m1.sl, st'⟩
theorem repVs_app {K : PySem.W.Frag} {F : Hp} {A : List Addr} : ∀ {x y : List Vl} {u v : List V}, RepVs K F A x u → RepVs K F A y v → RepVs K F A (x ++ y) (u ++ v)
  | [], y, u, v, h, h' => by
    have e : u = [] := h
    rw [e]
    exact h'
  | a :: x, y, u, v, h, h' => by
    obtain ⟨u0, r, rfl, h1, h2⟩ := h
    exact ⟨u0, r ++ v, rfl, h1, repVs_app h2 h'⟩
theorem lift_call {K : PySem.W.Frag} {sp : FSpec} {dargs : List Vl} {dvs : List V} {ts : DA} {E : XK} (hd : ∀ F A, RepVs K F A dargs dvs) {σ : L2.St} {H : Hp} {Q : VK} (h : lift K (dCall sp dargs ts) σ H Q) : tCall (liftSp K sp) dvs E (liftA K ts) σ H Q := by
  obtain ⟨W, F, A, m, Qd, G, h, c⟩ := h
  refine ⟨W, F, A, m, _, G, h, fun F1 A1 vs m1 H1 s1 p1 G1 q1 us r1 => ⟨W, F1, A1, m1.st, vs ++ dargs, _, G1.bare, repVs_app r1 (hd F1 A1), q1, fun F2 A2 st2 H2 r u s2 p2 G2 r2 q2 => ?_⟩⟩
  exact c F2 A2 r _ H2 (s1.trans s2) (pre_trans p1 p2) (G1.back s2 p2 G2) q2 u r2
structure FnAt (X : Cx) (x : Str) (k : Nat) (sp : FSpec) (dargs : List Vl) : Prop where
  nd : (x == ("__debug__" : Str)) = false
  ex : ∃ (f : Addr) (fd : FuncData) (ps : List Str) (ds : List Value) (dvs : List V), Fnn X.prog X.w X.K X.mg X.base CX0 k f fd ps (liftSp X.K sp) ∧ X.mg x = some (.ref f) ∧ PySem.W.keepIn X.K (.ref f) = true ∧ Binds X.K fd ps ds ∧ Vals dvs ds ∧ ∀ F A, RepVs X.K F A dargs dvs
section
variable {X : Cx} {k : Nat} {x : Str} {p pos : Pos} {e : Expr} {es : List Expr} {ts : DA} {sp : FSpec} {dargs : List Vl}
theorem je_call (F : FnAt X x k sp dargs) (hr : GRoom k X.A) (hg : Gl X x) (ha : JA X (e :: es) ts) (he : starEach (e :: es) X.env = (false, eval e X.env) :: starEach es X.env := by rfl) (hpl : (backTo pos (starEach es X.env)).any (·.1) = false := by rfl) :
    JE X (.Call (.Name x p) (e :: es) [] pos) (dCall sp dargs ts) := by
  obtain ⟨nd, f, fd, ps, ds, dvs, F, hm, hk, hb, hd, hda⟩ := F
  exact (pn_call F hr hg hm hk hb hd pass0 ha nd he hpl).imp fun _ _ _ h => lift_call hda h
end
end
end RT

set_option maxRecDepth 100000
set_option maxHeartbeats 4000000
namespace RT
open PySem PySem.Spec PyProof.Rows L2
variable [Gh : Ghost]

inductive Tgt where
  | nm (i : Nat) | tp (is : List Nat)
def gNames : List Nat → TGs
  | [] => gNil
  | i :: r => gCons (gName i) (gNames r)
def tgH (K : PySem.W.Frag) : Tgt → TG
  | .nm i => gName i
  | .tp is => gTup K is.length (gNames is)
def setsD : List Nat → List Dt → List (Option Vl) → List (Option Vl)
  | i :: is, x :: xs, sl => setsD is xs (sl.set i (some (.d x)))
  | _, _, sl => sl
def setsV : List Nat → List V → L2.St → L2.St
  | i :: is, x :: xs, σ => setsV is xs (σ.set i (some x))
  | _, _, σ => σ
def tgD : Tgt → Vl → M → (M → Prop) → Prop
  | .nm i, v, m, Q => Q ⟨m.sl.set i (some v), m.st⟩
  | .tp is, v, m, Q => match v with
    | .d (.tup xs) => xs.length = is.length ∧ Q ⟨setsD is xs m.sl, m.st⟩
    | _ => False
def tgSlots : Tgt → List Nat
  | .nm i => [i]
  | .tp is => is
section
variable {K : PySem.W.Frag} {W F F' : Hp} {A A' : List Addr} {m : M} {σ : L2.St} {H H' : Hp}
theorem Good.sets : ∀ {is : List Nat} {xs : List Dt} {vs : List V} {m : M} {σ : L2.St}, Good K W F A m σ H → Reps K F xs vs → Good K W F A ⟨setsD is xs m.sl, m.st⟩ (setsV is vs σ) H
  | [], _, _, _, _, G, _ => by
    unfold setsD setsV
    exact G
  | i :: is, [], vs, m, σ, G, r => by
    have e : vs = [] := by simpa only [Reps] using r
    rw [e]
    exact G
  | i :: is, x :: xs, vs, m, σ, G, r => by
    have e : ∃ v r', vs = v :: r' ∧ Rep K F x v ∧ Reps K F xs r' := by simpa only [Reps] using r
    obtain ⟨v, r', rfl, h1, h2⟩ := e
    have G1 := G.store (i := i) (v := .d x) (u := v) h1
    exact Good.sets (is := is) G1 h2
theorem gNames_ok {Q : L2.St → Hp → Prop} : ∀ {is : List Nat} {vs : List V} {σ : L2.St}, vs.length = is.length → Q (setsV is vs σ) H → gNames is vs σ H Q
  | [], [], _, _, q => ⟨rfl, q⟩
  | i :: is, v :: vs, σ, hl, q => ⟨v, vs, rfl, gNames_ok (is := is) (by simpa using hl) q⟩
  | [], _ :: _, _, hl, _ => by simp at hl
  | _ :: _, [], _, hl, _ => by simp at hl
theorem tg_ok {t : Tgt} {v : Vl} {u : V} {Qd : M → Prop} {Q : L2.St → Hp → Prop} (G : Good K W F A m σ H) (r : RepV K F A v u) (q : tgD t v m Qd)
    (c : ∀ m' σ', Good K W F A m' σ' H → (∀ vs : List Nat, (∀ i ∈ tgSlots t, i ∈ vs) → wipe σ' vs = wipe σ vs) → Qd m' → Q σ' H) : tgH K t u σ H Q := by
  have w1 : ∀ (vs : List Nat) (i : Nat) (o : Option V) (σ : L2.St), i ∈ vs → wipe (σ.set i o) vs = wipe σ vs := by
    intro vs
    induction vs with
    | nil =>
      intro i o σ h
      cases h
    | cons v vs ih =>
      intro i o σ h
      unfold wipe
      by_cases hv : v = i
      · subst hv
        by_cases hm : v ∈ vs
        · rw [ih v o σ hm]
        · have w2 : ∀ (vs : List Nat) (σ : L2.St), v ∉ vs → (wipe (σ.set v o) vs) = (wipe σ vs).set v o := by
            intro vs
            induction vs with
            | nil =>
              intro σ _
              rfl
            | cons z vs ih =>
              intro σ hz
              unfold wipe
              rw [ih σ (fun q => hz (List.mem_cons_of_mem _ q)), List.set_comm]
              intro e
              exact hz (by rw [e]; exact List.mem_cons_self)
          rw [w2 vs σ hm, List.set_set]
      · have hm : i ∈ vs := by
          rcases List.mem_cons.mp h with z | z
          · exact absurd z.symm hv
          · exact z
        rw [ih i o σ hm]
  cases t with
  | nm i => exact c _ _ (G.store r) (fun vs hv => w1 vs i _ σ (hv i (by unfold tgSlots; exact List.mem_singleton.mpr rfl))) q
  | tp is =>
    cases v with
    | c k => exact (show False from q).elim
    | d x =>
      cases x with
      | tup xs =>
        obtain ⟨hl, q⟩ : xs.length = is.length ∧ Qd ⟨setsD is xs m.sl, m.st⟩ := q
        have r' : Rep K F (.tup xs) u := r
        simp only [Rep] at r'
        obtain ⟨a, vs, rfl, hs, rs⟩ := r'
        have hlv : vs.length = is.length := by rw [← rs.length]; exact hl
        refine ⟨a, vs, rfl, seqT_mono G.ext hs, hlv, gNames_ok hlv (c _ _ (G.sets rs) (fun ws hw => ?_) q)⟩
        have go : ∀ (is : List Nat) (vs : List V) (σ : L2.St), (∀ i ∈ is, i ∈ ws) → wipe (setsV is vs σ) ws = wipe σ ws := by
          intro is
          induction is with
          | nil =>
            intro vs σ _
            cases vs <;> rfl
          | cons i is ih =>
            intro vs σ hi
            cases vs with
            | nil => rfl
            | cons v vs =>
              show wipe (setsV is vs (σ.set i (some v))) ws = wipe σ ws
              rw [ih vs _ (fun j hj => hi j (List.mem_cons_of_mem _ hj)), w1 ws i _ σ (hi i List.mem_cons_self)]
        exact go is vs σ hw
      | _ => exact (show False from q).elim
end
section
variable {X : Cx}
theorem jg_of {e : Expr} {t : Tgt} {g : TG} (h : PG X e g) (e1 : g = tgH X.K t := by rfl) : PG X e (tgH X.K t) := e1 ▸ h
end

def lockOk (lk : Option Nat) (xs : List Dt) (m : M) : Prop := match lk with
  | none => True
  | some k => m.st[k]? = some (.lst xs)
abbrev DI := M → (List Dt → Option Nat → M → Prop) → Prop
structure Walks (K : PySem.W.Frag) (J : It) (F : Hp) (A : List Addr) (xs : List Dt) (lk : Option Nat) : Prop where
  go : ∀ W F' A' m σ H i x, Same F F' → A <+: A' → Good K W F' A' m σ H → lockOk lk xs m → xs[i]? = some x → J.go i H ∧ ∀ v H', J.yld i H v H' → ∃ F2, Same F' F2 ∧ Good K W F2 A' m σ H' ∧ Rep K F2 x v
  stop : ∀ W F' A' m σ H, Same F F' → A <+: A' → Good K W F' A' m σ H → lockOk lk xs m → J.stop xs.length H
def liftI (K : PySem.W.Frag) (t : DI) : TI := fun σ H R => ∃ W F A m Qd, Good K W F A m σ H ∧ t m Qd ∧
  ∀ F' A' xs lk m' H', Same F F' → A <+: A' → Good K W F' A' m' σ H' → Qd xs lk m' → ∀ J, Walks K J F' A' xs lk → R J H'
abbrev JI (X : Cx) (tg iter : Expr) (t : DI) : Prop := PI X tg iter (liftI X.K t)
theorem _root_.L2.PI.imp {X : Cx} {tg e : Expr} {t t' : TI} (h : PI X tg e t) (f : ∀ σ H Q, t' σ H Q → t σ H Q) : PI X tg e t' := ⟨fun pins s σ H Q I q => h.run pins s σ H Q I (f _ _ _ q)⟩
section
variable {K : PySem.W.Frag}
theorem walks_list {F : Hp} {A : List Addr} {a : Addr} {vs : List V} {xs : List Dt} (s : SqL K F a vs) (r : Reps K F xs vs) : Walks K (Itl K a) F A xs none where
  go := fun W F' A' m σ H i x sF p G _ hi => by
    obtain ⟨v, hv, rv⟩ := r.get hi
    have sq : SqL K H a vs := (sF.trans G.ext).seq s
    refine ⟨⟨vs, v, sq, hv⟩, fun u H' y => ?_⟩
    obtain ⟨rfl, y⟩ := y
    have e := (y vs sq).symm.trans hv
    cases e
    exact ⟨F', Same.refl _, G, Rep.mono sF rv⟩
  stop := fun W F' A' m σ H sF p G _ => ⟨vs, (sF.trans G.ext).seq s, by rw [r.length]; exact Nat.le_refl _⟩
theorem walks_tup {F : Hp} {A : List Addr} {a : Addr} {vs : List V} {xs : List Dt} (s : SqT K F a vs) (r : Reps K F xs vs) : Walks K (Itt K a) F A xs none where
  go := fun W F' A' m σ H i x sF p G _ hi => by
    obtain ⟨v, hv, rv⟩ := r.get hi
    have sq : SqT K H a vs := seqT_mono (sF.trans G.ext) s
    refine ⟨⟨vs, v, sq, hv⟩, fun u H' y => ?_⟩
    obtain ⟨rfl, y⟩ := y
    have e := (y vs sq).symm.trans hv
    cases e
    exact ⟨F', Same.refl _, G, Rep.mono sF rv⟩
  stop := fun W F' A' m σ H sF p G _ => ⟨vs, seqT_mono (sF.trans G.ext) s, by rw [r.length]; exact Nat.le_refl _⟩
theorem walks_own {F : Hp} {A : List Addr} {a : Addr} {k : Nat} {xs : List Dt} (ha : A[k]? = some a) : Walks K (Itl K a) F A xs (some k) := by
  have at_ : ∀ {W F' A' m σ H}, A <+: A' → Good K W F' A' m σ H → lockOk (some k) xs m → ∃ vs, H a = some (.lst vs) ∧ Reps K F' xs vs := fun {W F' A' m σ H} p G l => by
    obtain ⟨a', vs, h1, h2, h3, _⟩ := G.st k xs l
    obtain ⟨t, rfl⟩ := p
    have hk := (List.getElem?_eq_some_iff.mp ha).1
    rw [List.getElem?_append_left hk, ha] at h1
    cases h1
    exact ⟨vs, h2, h3⟩
  refine ⟨fun W F' A' m σ H i x sF p G l hi => ?_, fun W F' A' m σ H sF p G l => ?_⟩
  · obtain ⟨vs, h2, r⟩ := at_ p G l
    obtain ⟨v, hv, rv⟩ := r.get hi
    refine ⟨⟨vs, v, SqL.of h2, hv⟩, fun u H' y => ?_⟩
    obtain ⟨rfl, y⟩ := y
    have e := (y vs (SqL.of h2)).symm.trans hv
    cases e
    exact ⟨F', Same.refl _, G, rv⟩
  · obtain ⟨vs, h2, r⟩ := at_ p G l
    exact ⟨vs, SqL.of h2, by rw [r.length]; exact Nat.le_refl _⟩
end

section
variable {X : Cx} {tg l : Expr} {t : DE}
def rangeD (lo : Int) : Nat → List Dt
  | 0 => []
  | n + 1 => .int lo :: rangeD (lo + 1) n
theorem rangeD_len : ∀ (n : Nat) (lo : Int), (rangeD lo n).length = n
  | 0, _ => rfl
  | n + 1, lo => by
    unfold rangeD
    rw [List.length_cons, rangeD_len n]
theorem rangeD_get : ∀ (n : Nat) (lo : Int) (i : Nat) (x : Dt), (rangeD lo n)[i]? = some x → i < n ∧ x = .int (lo + i)
  | 0, _, i, x, h => by
    unfold rangeD at h
    simp at h
  | n + 1, lo, 0, x, h => by
    unfold rangeD at h
    have e : Dt.int lo = x := Option.some.inj h
    refine ⟨Nat.succ_pos _, ?_⟩
    rw [← e]
    congr 1
    simp
  | n + 1, lo, i + 1, x, h => by
    unfold rangeD at h
    obtain ⟨h1, h2⟩ := rangeD_get n (lo + 1) i x h
    refine ⟨by omega, ?_⟩
    rw [h2]
    congr 1
    omega
theorem walks_range {K : PySem.W.Frag} {F : Hp} {A : List Addr} (lo : Int) (n : Nat) : Walks K (Itr lo n) F A (rangeD lo n) none where
  go := fun W F' A' m σ H i x sF p G _ hi => by
    obtain ⟨h1, rfl⟩ := rangeD_get n lo i x hi
    refine ⟨h1, fun u H' y => ?_⟩
    obtain ⟨rfl, rfl⟩ := y
    exact ⟨F', Same.refl _, G, rep_int⟩
  stop := fun W F' A' m σ H sF p G _ => by
    rw [rangeD_len]
    exact Nat.le_refl n
def small62 (i : Int) : Prop := -(2 ^ 62) ≤ i ∧ i < 2 ^ 62
def dRange1 (ts : DA) : DI := fun m Q => ts m fun vs m1 => match vs with
  | [.d (.int j)] => small62 j ∧ Q (rangeD 0 j.toNat) none m1
  | _ => False
def dRange2 (ts : DA) : DI := fun m Q => ts m fun vs m1 => match vs with
  | [.d (.int i), .d (.int j)] => (small62 i ∧ small62 j) ∧ Q (rangeD i (j - i).toNat) none m1
  | _ => False
variable {ts : DA}
theorem rv1 {K : PySem.W.Frag} {F : Hp} {A : List Addr} {x : Vl} {us : List V} (r : RepVs K F A [x] us) : ∃ u, us = [u] ∧ RepV K F A x u := by
  obtain ⟨u, r', rfl, h1, h2⟩ := r
  have e : r' = [] := h2
  rw [e]
  exact ⟨u, rfl, h1⟩
theorem rv2 {K : PySem.W.Frag} {F : Hp} {A : List Addr} {x y : Vl} {us : List V} (r : RepVs K F A [x, y] us) : ∃ u v, us = [u, v] ∧ RepV K F A x u ∧ RepV K F A y v := by
  obtain ⟨u, r', rfl, h1, h2⟩ := r
  obtain ⟨v, rfl, h3⟩ := rv1 h2
  exact ⟨u, v, rfl, h1, h3⟩
theorem ji_range1 {a : Expr} {p pos : Pos} (hg : Gl X "range") (hm : X.mg "range" = none) (ha : JA X [a] ts) (hs : starEach [a] X.env = [(false, eval a X.env)] := by rfl) : JI X tg (.Call (.Name "range" p) [a] [] pos) (dRange1 ts) := by
  refine (pi_range1 hg hm ha hs).imp fun σ H R hh => ?_
  obtain ⟨W, F, A, m, Qd, G, h, c⟩ := hh
  refine ⟨W, F, A, m, _, G, h, fun F1 A1 vs m1 H1 s1 p1 G1 q1 us r1 => ?_⟩
  split at q1
  · rename_i j
    obtain ⟨u, rfl, ru⟩ := rv1 r1
    have e : u = .int j := repB_int (H := H1) ru
    rw [e]
    exact ⟨j, rfl, q1.1.1, q1.1.2, c F1 A1 _ none m1 H1 s1 p1 G1 q1.2 _ (walks_range 0 j.toNat)⟩
  · exact q1.elim
theorem ji_range2 {a b : Expr} {p pos : Pos} (hg : Gl X "range") (hm : X.mg "range" = none) (ha : JA X [a, b] ts) (hs : starEach [a, b] X.env = [(false, eval a X.env), (false, eval b X.env)] := by rfl) (hs2 : starEach [b] X.env = [(false, eval b X.env)] := by rfl)
    : JI X tg (.Call (.Name "range" p) [a, b] [] pos) (dRange2 ts) := by
  refine (pi_range2 hg hm ha hs hs2).imp fun σ H R hh => ?_
  obtain ⟨W, F, A, m, Qd, G, h, c⟩ := hh
  refine ⟨W, F, A, m, _, G, h, fun F1 A1 vs m1 H1 s1 p1 G1 q1 us r1 => ?_⟩
  split at q1
  · rename_i i j
    obtain ⟨u, w, rfl, ru, rw'⟩ := rv2 r1
    have e : u = .int i := repB_int (H := H1) ru
    have e' : w = .int j := repB_int (H := H1) rw'
    rw [e, e']
    exact ⟨i, j, rfl, ⟨q1.1.1.1, q1.1.1.2, q1.1.2.1, q1.1.2.2⟩, c F1 A1 _ none m1 H1 s1 p1 G1 q1.2 _ (walks_range i (j - i).toNat)⟩
  · exact q1.elim

theorem tup_laid {K : PySem.W.Frag} {W F : Hp} {A : List Addr} {m : M} {σ : L2.St} {H : Hp} {T : Addr} {ds : List Dt} {vs : List V} (G : Good K W F A m σ H) (n : H T = none) (r : Reps K F ds vs) : ∃ F2, Same F F2 ∧ Good K W F2 A m σ (upd H T (.tup vs)) ∧ Rep K F2 (.tup ds) (.ref T) := by
  have s := same_upd (o := .tup vs) (G.ext.free n)
  refine ⟨upd F T (.tup vs), s, G.laid n, ?_⟩
  simp only [Rep]
  exact ⟨T, vs, rfl, SqT.of upd_same, Reps.mono s r⟩
end

def dNext : DS := fun E m => E.nx m
def dSeq (t u : DS) : DS := fun E m => t ⟨fun m1 => u E m1, E.rt, E.bk, E.ct⟩ m
def dRet (t : DE) : DS := fun E m => t m fun v m1 => E.rt v m1
def dDo (t : DE) : DS := fun E m => t m fun _ m1 => E.nx m1
def dSet (i : Nat) (t : DE) : DS := fun E m => t m fun v m1 => E.nx ⟨m1.sl.set i (some v), m1.st⟩
def dAsg (t : DE) (g : Tgt) : DS := fun E m => t m fun v m1 => tgD g v m1 E.nx
def dIfS (c : DT) (t u : DS) : DS := fun E m => c m fun b m1 => if b = true then t E m1 else u E m1
def dWhile (c : DT) (b : DS) : DS := fun E m => ∃ W : Nat → M → Prop, (∃ n, W n m) ∧ ∀ n m, W n m →
  c m fun k m1 => if k = true then b ⟨fun m2 => ∃ n', n' < n ∧ W n' m2, E.rt, E.nx, fun m2 => ∃ n', n' < n ∧ W n' m2⟩ m1 else E.nx m1
def dLoop (g : Tgt) (b : DS) (all : List Dt) (lk : Option Nat) (E : DEnds) : List Dt → M → Prop
  | [], m => lockOk lk all m ∧ E.nx m
  | x :: xs, m => lockOk lk all m ∧ tgD g (.d x) m fun m1 => b ⟨dLoop g b all lk E xs, E.rt, E.nx, dLoop g b all lk E xs⟩ m1
def dFor (di : DI) (g : Tgt) (b : DS) : DS := fun E m => di m fun xs lk m1 => dLoop g b xs lk E xs m1
section
variable {X : Cx} {st : Stmt} {rest : List Stmt} {t u : DS} {e : Expr} {te : DE} {pos : Pos}
theorem js_nil : JSs X [] dNext := pss_nil.imp fun D σ H ⟨W, F, A, m, E, G, h, c⟩ => c.nx F A m σ H (Same.refl _) (pre_refl _) G h
theorem lift_seq {D : Ends} {σ : L2.St} {H : Hp} (h : liftS X.K (dSeq t u) D σ H) : tSeq (liftS X.K t) (liftS X.K u) D σ H := by
  obtain ⟨W, F, A, m, E, G, h, c⟩ := h
  exact ⟨W, F, A, m, _, G, h, ⟨fun F1 A1 m1 σ1 H1 s1 p1 G1 q1 => ⟨W, F1, A1, m1, E, G1, q1, c.mono s1 p1⟩, c.rt, c.bk, c.ct⟩⟩
theorem js_cons (h1 : JS X st t) (h2 : JSs X rest u) : JSs X (st :: rest) (dSeq t u) := (pss_cons h1 h2).imp fun _ _ _ h => lift_seq h
theorem js_one (h1 : JS X st t) : JSs X [st] t := pss_one h1
theorem js_ret (he : JE X e te) : JS X (.Return (some e) pos) (dRet te) := by
  refine (ps_ret he).imp fun D σ H hh => ?_
  obtain ⟨W, F, A, m, E, G, h, c⟩ := hh
  exact ⟨W, F, A, m, _, G, h, fun F1 A1 v m1 H1 s1 p1 G1 q1 u r1 => c.rt F1 A1 m1 σ H1 v u s1 p1 G1 r1 q1⟩
theorem js_do (he : JE X e te) (hs : swapsWith e none pos.line X.env = pure false := by rfl) : JS X (.Expr e pos) (dDo te) := by
  refine (ps_expr he hs).imp fun D σ H hh => ?_
  obtain ⟨W, F, A, m, E, G, h, c⟩ := hh
  exact ⟨W, F, A, m, _, G, h, fun F1 A1 v m1 H1 s1 p1 G1 q1 u r1 => c.nx F1 A1 m1 σ H1 s1 p1 G1 q1⟩
theorem lift_set {i : Nat} {D : Ends} {σ : L2.St} {H : Hp} (h : liftS X.K (dSet i te) D σ H) : tAsg (lift X.K te) (gName i) D σ H := by
  obtain ⟨W, F, A, m, E, G, h, c⟩ := h
  exact ⟨W, F, A, m, _, G, h, fun F1 A1 v m1 H1 s1 p1 G1 q1 u r1 => c.nx F1 A1 _ _ H1 s1 p1 (G1.store r1) q1⟩
theorem js_set {i : Nat} {x : Str} {pos' : Pos} (hN : X.N.Nodup) (hi : X.N[i]? = some x) (hx : Loc X.env.scope x) (he : JE X e te) (hs : swapsWith e (some (.Name x pos')) pos.line X.env = pure false := by rfl) (hf : X.fn x = true ∨ X.env.scope.names.lookup x = some .local := by first | exact .inl rfl | exact .inr rfl | assumption) :
    JS X (.Assign [.Name x pos'] e pos) (dSet i te) := (ps_set hN hi hx he hs hf).imp fun _ _ _ h => lift_set h
def dPar (i j : Nat) (ts : DA) : DS := fun E m => ts m fun vs m1 => match vs with
  | [v, w] => E.nx ⟨(m1.sl.set i (some v)).set j (some w), m1.st⟩
  | _ => False
theorem js_par {i j : Nat} {x y : Str} {a b : Expr} {ts : DA} {px py pt : Pos} {kt k2 pt2} (hc : X.calm = true) (hN : X.N.Nodup) (hi : X.N[i]? = some x) (hj : X.N[j]? = some y) (hij : i ≠ j)
    (hx : X.env.scope.names.lookup x = some .local) (hy : X.env.scope.names.lookup y = some .local) (ha : JA X [a, b] ts)
    (hw : swappedStores [.Tuple [.Name x px, .Name y py] kt pt] (.Tuple [a, b] k2 pt2) X.env = pure (some [x, y]) := by rfl)
    (hs : swapsWithSole [.Tuple [.Name x px, .Name y py] kt pt] (.Tuple [a, b] k2 pt2) pos.line X.env = pure false := by rfl) :
    JS X (.Assign [.Tuple [.Name x px, .Name y py] kt pt] (.Tuple [a, b] k2 pt2) pos) (dPar i j ts) := by
  refine (ps_par hc hN hi hj hij hx hy ha hw hs).imp fun D σ H hh => ?_
  obtain ⟨W, F, A, m, E, G, h, c⟩ := hh
  refine ⟨W, F, A, m, _, G, h, fun F1 A1 vs m1 H1 s1 p1 G1 q1 us r1 => ?_⟩
  split at q1
  · rename_i v w
    obtain ⟨a1, b1, rfl, ra, rb⟩ := rv2 r1
    exact ⟨a1, b1, rfl, c.nx F1 A1 _ _ H1 s1 p1 ((G1.store ra).store rb) q1⟩
  · exact q1.elim
theorem js_if {c : Expr} {a b : List Stmt} {tc : DT} (hc : JT X c tc) (ha : JSs X a t) (hb : JSs X b u) : JS X (.If c a b pos) (dIfS tc t u) := by
  refine (ps_if hc ha hb).imp fun D σ H hh => ?_
  obtain ⟨W, F, A, m, E, G, h, c⟩ := hh
  refine ⟨W, F, A, m, _, G, h, fun F1 A1 v m1 H1 s1 p1 G1 q1 => ?_⟩
  cases v with
  | true => exact ⟨W, F1, A1, m1, E, G1, q1, c.mono s1 p1⟩
  | false => exact ⟨W, F1, A1, m1, E, G1, q1, c.mono s1 p1⟩
theorem js_while {c : Expr} {body : List Stmt} {tc : DT} {tb : DS} (hp : PassesOwn (model X.prog X.w) X.A X.env X.xe) (hc : JT X c tc) (hb : JSs X body tb) : JS X (.While c body [] pos) (dWhile tc tb) := by
  refine (ps_while hp hc hb).imp fun D σ H hh => ?_
  obtain ⟨W, F, A, m, E, G, h, c⟩ := hh
  obtain ⟨Wi, ⟨n0, w0⟩, turn⟩ := h
  refine ⟨fun n σ' H' => ∃ F' A' m', Same F F' ∧ A <+: A' ∧ Good X.K W F' A' m' σ' H' ∧ Wi n m', ⟨n0, F, A, m, Same.refl _, pre_refl _, G, w0⟩, ?_⟩
  rintro n σ1 H1 ⟨F1, A1, m1, s1, p1, G1, w1⟩
  refine ⟨W, F1, A1, m1, _, G1, turn n m1 w1, fun F2 A2 k m2 H2 s2 p2 G2 q2 => ?_⟩
  cases k with
  | false => exact c.nx F2 A2 m2 _ H2 (s1.trans s2) (p1.trans p2) G2 q2
  | true =>
    refine ⟨fun σ' H' => ∃ F' A' m', Same F F' ∧ A <+: A' ∧ Good X.K W F' A' m' σ' H' ∧ ∃ n', n' < n ∧ Wi n' m', fun σ' H' hN => ?_, ?_⟩
    · obtain ⟨F', A', m', s', p', G', n', hn, w'⟩ := hN
      exact ⟨n', hn, F', A', m', s', p', G', w'⟩
    · have c' := c.mono (s1.trans s2) (p1.trans p2)
      refine ⟨W, F2, A2, m2, _, G2, q2, ⟨fun F3 A3 m3 σ3 H3 s3 p3 G3 q3 => ⟨F3, A3, m3, (s1.trans s2).trans s3, (p1.trans p2).trans p3, G3, q3⟩, c'.rt, c'.nx, fun F3 A3 m3 σ3 H3 s3 p3 G3 q3 => ⟨F3, A3, m3, (s1.trans s2).trans s3, (p1.trans p2).trans p3, G3, q3⟩⟩⟩
theorem js_for {iter tg : Expr} {body : List Stmt} {di : DI} {g : Tgt} {tb : DS} (hp : PassesOwn (model X.prog X.w) X.A X.env X.xe) (hc : X.calm = true) (hi : JI X tg iter di) (hg : PG X tg (tgH X.K g)) (hb : JSs X body tb)
    (hs : ∀ x, foldedSetIterable iter X.env x = pure x := by intro _; rfl) : JS X (.For tg iter body [] pos) (dFor di g tb) := by
  refine (ps_for hp hc hi hg hb hs).imp fun D σ H hh => ?_
  obtain ⟨W, F, A, m, E, G, h, c⟩ := hh
  refine ⟨W, F, A, m, _, G, h, fun F1 A1 xs lk m1 H1 s1 p1 G1 q1 J w => ?_⟩
  refine ⟨fun i n σ' H' => ∃ F' A' m', Same F1 F' ∧ A1 <+: A' ∧ Good X.K W F' A' m' σ' H' ∧ i + n = xs.length ∧ dLoop g tb xs lk E (xs.drop i) m',
    ⟨xs.length, F1, A1, m1, Same.refl _, pre_refl _, G1, Nat.zero_add _, q1⟩, ?_⟩
  rintro i n σ2 H2 ⟨F2, A2, m2, s2, p2, G2, en, q2⟩
  by_cases hlt : i < xs.length
  · refine .inr ?_
    have ed : xs.drop i = xs[i] :: xs.drop (i + 1) := List.drop_eq_getElem_cons hlt
    rw [ed] at q2
    obtain ⟨hl, q2⟩ : lockOk lk xs m2 ∧ tgD g (.d xs[i]) m2 fun m1 => tb ⟨dLoop g tb xs lk E (xs.drop (i + 1)), E.rt, E.nx, dLoop g tb xs lk E (xs.drop (i + 1))⟩ m1 := q2
    obtain ⟨hgo, hy⟩ := w.go W F2 A2 m2 σ2 H2 i xs[i] s2 p2 G2 hl (List.getElem?_eq_getElem hlt)
    refine ⟨hgo, fun σ' H' => ∃ F' A' m', Same F1 F' ∧ A1 <+: A' ∧ Good X.K W F' A' m' σ' H' ∧ dLoop g tb xs lk E (xs.drop (i + 1)) m', fun σ' H' hN => ?_, fun v H3 y => ?_⟩
    · obtain ⟨F', A', m', s', p', G', q'⟩ := hN
      exact ⟨n - 1, by omega, F', A', m', s', p', G', by omega, q'⟩
    · obtain ⟨F3, s3, G3, r3⟩ := hy v H3 y
      refine tg_ok G3 (v := .d xs[i]) r3 q2 fun m' σ' G' _ q' => ?_
      have c' := c.mono (s1.trans (s2.trans s3)) (p1.trans p2)
      exact ⟨W, F3, A2, m', _, G', q', ⟨fun F4 A4 m4 σ4 H4 s4 p4 G4 q4 => ⟨F4, A4, m4, s2.trans (s3.trans s4), p2.trans p4, G4, q4⟩, c'.rt, c'.nx, fun F4 A4 m4 σ4 H4 s4 p4 G4 q4 => ⟨F4, A4, m4, s2.trans (s3.trans s4), p2.trans p4, G4, q4⟩⟩⟩
  · have e : i = xs.length := by omega
    subst e
    rw [List.drop_length] at q2
    obtain ⟨hl, q2⟩ : lockOk lk xs m2 ∧ E.nx m2 := q2
    exact .inl ⟨w.stop W F2 A2 m2 σ2 H2 s2 p2 G2 hl, c.nx F2 A2 m2 σ2 H2 (s1.trans s2) (p1.trans p2) G2 q2⟩
end
end RT

set_option maxRecDepth 100000
set_option maxHeartbeats 4000000
namespace RT
open PySem PySem.Spec PyProof.Rows L2
variable [Gh : Ghost]
section
variable {X : Cx} {a b e : Expr} {es : List Expr} {ta tb t : DE} {ts : DA} {pos : Pos}

mutual
def toPy : Dt → PyData
  | .non => .none
  | .bl b => .bool b
  | .int i => .int i
  | .str s => .str s
  | .tup ds => .tuple (toPys ds)
  | .lst ds => .list (toPys ds)
def toPys : List Dt → List PyData
  | [] => []
  | d :: ds => toPy d :: toPys ds
end
mutual
theorem dp_of {K : PySem.W.Frag} {H : Hp} : ∀ {d : Dt} {v : V}, Rep K H d v → Dp K H v (toPy d)
  | .non, v, h => by
    simp only [Rep] at h
    rw [h]
    unfold toPy
    exact .non
  | .bl b, v, h => by
    simp only [Rep] at h
    rw [h]
    unfold toPy
    exact .bl b
  | .int i, v, h => by
    simp only [Rep] at h
    rw [h]
    unfold toPy
    exact .int i
  | .str s, v, h => by
    simp only [Rep] at h
    rw [h]
    unfold toPy
    exact .str s
  | .tup ds, v, h => by
    simp only [Rep] at h
    obtain ⟨a, vs, rfl, s, r⟩ := h
    unfold toPy
    exact .tup s (dps_of r)
  | .lst ds, v, h => by
    simp only [Rep] at h
    obtain ⟨a, vs, rfl, s, r⟩ := h
    unfold toPy
    exact .lst (.inl s) (dps_of r)
theorem dps_of {K : PySem.W.Frag} {H : Hp} : ∀ {ds : List Dt} {vs : List V}, Reps K H ds vs → DpAll K H vs (toPys ds)
  | [], vs, h => by
    simp only [Reps] at h
    rw [h]
    unfold toPys
    exact .nil
  | d :: ds, vs, h => by
    simp only [Reps] at h
    obtain ⟨v, r, rfl, h1, h2⟩ := h
    unfold toPys
    exact .cons (dp_of h1) (dps_of h2)
end
theorem rep_up {K : PySem.W.Frag} {F H : Hp} (s : Same F H) : ∀ {x : Dt} {u : V}, RepB K F H x u → Rep K H x u
  | .lst ds, u, h => by
    obtain ⟨a, vs, rfl, q, r⟩ := h
    simp only [Rep]
    exact ⟨a, vs, rfl, q, Reps.mono s r⟩
  | .tup ds, u, h => Rep.mono s (d := .tup ds) h
  | .non, u, h => Rep.mono s h
  | .bl _, u, h => Rep.mono s h
  | .int _, u, h => Rep.mono s h
  | .str _, u, h => Rep.mono s h
def eqD (x y : Dt) : Bool := PyData.eqv (toPy x) (toPy y)
def shD (x : Dt) : Prop := SeqAt.shaped (toPy x) = true
def rEq : DR2 := fun x y P => shD x ∧ shD y ∧ P (.bl (eqD x y))
theorem o_eq {k : Nat} (hr : GRoom k X.A) : OpD X (compareOp .Eq) rEq := ⟨_, op_eqD hr.hu, fun W F A m σ H x y u v P Q G rx ry q c =>
  ⟨_, _, dp_of (rep_up G.ext rx), dp_of (rep_up G.ext ry), q.1, q.2.1, c F H _ _ (Same.refl _) G rep_bl q.2.2⟩⟩

theorem op_catR : OpR X (binaryOp .Add) (fun x y H Q => ∃ l b xs zs, x = .ref l ∧ y = .ref b ∧ Rd H l (.lst xs) ∧ Rd H b (.lst zs) ∧ xs.length + zs.length ≤ sizeLine ∧ ∀ p, H p = none → Q (.ref p) (upd H p (.lst (xs ++ zs)))) := by
  intro pins s σ H x y v u Q I rx ry h
  obtain ⟨l, b, xs, zs, rfl, rfl, hH, hB, hz, q⟩ := h
  cases rx
  cases ry
  obtain ⟨z, its, n, r, e⟩ := hH.ok I.hok
  obtain ⟨z2, its2, n2, r2, e2⟩ := hB.ok I.hok
  refine PySem.P.add_list e e2 ?_ (by rw [List.size_toArray, List.size_toArray, ← r.length, ← r2.length]; omega)
  have ea : its.toArray ++ its2.toArray = (its ++ its2).toArray := by simp
  rw [ea]
  exact ⟨.ref _, _, I.lnew (t' := s.toks) (r.append r2) (by rw [List.length_append]; omega), rfl, q _ I.fresh⟩
def rCatT : DR2 := fun x y P => match x, y with
  | .tup xs, .tup ys => xs.length + ys.length ≤ sizeLine ∧ P (.tup (xs ++ ys))
  | _, _ => False
theorem reps_nil {K : PySem.W.Frag} {F : Hp} {ds : List Dt} {vs : List V} (r : Reps K F ds vs) (h : vs = []) : ds = [] := by
  have := r.length
  rw [h] at this
  exact List.eq_nil_of_length_eq_zero this
theorem o_catT : OpD X (binaryOp .Add) rCatT := ⟨_, op_catA, fun W F A m σ H x y u v P Q G rx ry q c => by
  unfold rCatT at q
  split at q
  · rename_i xs ys
    obtain ⟨l, vs, rfl, hl, rl⟩ := repB_tup rx
    obtain ⟨b, ws, rfl, hb, rb⟩ := repB_tup ry
    refine ⟨l, b, vs, ws, rfl, rfl, seqT_mono G.ext hl, seqT_mono G.ext hb, by rw [← rl.length, ← rb.length]; exact q.1, fun e => ?_, fun e e2 => ?_, fun _ _ p np => ?_⟩
    · have e1 := reps_nil rl e
      subst e1
      exact c F H _ _ (Same.refl _) G ry q.2
    · have e1 := reps_nil rb e2
      subst e1
      have q2 := q.2
      rw [List.append_nil] at q2
      exact c F H _ _ (Same.refl _) G rx q2
    · obtain ⟨F2, s2, G2, r2⟩ := tup_laid G np (rl.append rb)
      exact c F2 _ _ _ s2 G2 r2 q.2
  · exact q.elim⟩

def onVs (m : M) : List Vl → (List Dt → Prop) → Prop
  | [], k => k []
  | v :: r, k => onV m v fun x => onVs m r fun xs => k (x :: xs)
def RepBs (K : PySem.W.Frag) (F H : Hp) : List Dt → List V → Prop
  | [], us => us = []
  | d :: ds, us => ∃ u r, us = u :: r ∧ RepB K F H d u ∧ RepBs K F H ds r
theorem onVs_elim {K : PySem.W.Frag} {W F : Hp} {A : List Addr} {m : M} {σ : L2.St} {H : Hp} (G : Good K W F A m σ H) : ∀ {vs : List Vl} {us : List V} {k : List Dt → Prop}, RepVs K F A vs us → onVs m vs k → ∃ xs, RepBs K F H xs us ∧ k xs
  | [], us, k, r, h => by
    have e : us = [] := r
    exact ⟨[], e, h⟩
  | v :: vs, us, k, r, h => by
    obtain ⟨u, us', rfl, r1, r2⟩ := r
    obtain ⟨x, ex, h⟩ := onV_elim h
    obtain ⟨xs, rs, h⟩ := onVs_elim G r2 h
    exact ⟨x :: xs, ⟨u, us', rfl, G.view r1 ex, rs⟩, h⟩
abbrev DRB := List Dt → (Dt → Prop) → Prop
def dBi (r : DRB) (ts : DA) : DE := fun m Q => ts m fun vs m1 => onVs m1 vs fun xs => r xs fun z => Q (.d z) m1
def BiD (X : Cx) (f : Value) (r : DRB) : Prop := ∃ R, CallR X f R ∧ ∀ (W F : Hp) (A : List Addr) (m : M) (σ : L2.St) (H : Hp) (xs : List Dt) (us : List V) (P : Dt → Prop) (Q : VK), Good X.K W F A m σ H → RepBs X.K F H xs us → r xs P →
    (∀ F' H' z w, Same F F' → Good X.K W F' A m σ H' → Rep X.K F' z w → P z → Q w H') → R us H Q
theorem lift_bi {K : PySem.W.Frag} {R : List V → Hp → VK → Prop} {r : DRB} (hR : ∀ (W F : Hp) (A : List Addr) (m : M) (σ : L2.St) (H : Hp) (xs : List Dt) (us : List V) (P : Dt → Prop) (Q : VK), Good K W F A m σ H → RepBs K F H xs us → r xs P →
    (∀ F' H' z w, Same F F' → Good K W F' A m σ H' → Rep K F' z w → P z → Q w H') → R us H Q) {σ : L2.St} {H : Hp} {Q : VK} (h : lift K (dBi r ts) σ H Q) : tCB R (liftA K ts) σ H Q := by
  obtain ⟨W, F, A, m, Qd, G, h, c⟩ := h
  refine ⟨W, F, A, m, _, G, h, fun F1 A1 vs m1 H1 s1 p1 G1 q1 us r1 => ?_⟩
  obtain ⟨xs, rs, q⟩ := onVs_elim G1 r1 q1
  exact hR W F1 A1 m1 σ H1 xs us _ Q G1 rs q fun F' H' z w s' G' rz pz => c F' A1 (.d z) m1 H' (s1.trans s') p1 G' pz w rz
theorem je_bi {x : Str} {id : String} {r : DRB} {p : Pos} (hc : BiD X (.builtin id) r) (hg : Gl X x) (hm : X.mg x = none) (hv : bootBuiltins x = some (.builtin id)) (ha : JA X (e :: es) ts) (hn : x ≠ "__name__" := by decide) (hdb : (x == ("__debug__" : Str)) = false := by decide)
    (he : starEach (e :: es) X.env = (false, eval e X.env) :: starEach es X.env := by rfl) (hpl : (backTo pos (starEach es X.env)).any (·.1) = false := by rfl) : JE X (.Call (.Name x p) (e :: es) [] pos) (dBi r ts) := by
  obtain ⟨R, hC, hR⟩ := hc
  exact (pe_callB hC hg hm hv ha hn hdb he hpl).imp fun _ _ _ h => lift_bi hR h
theorem je_bty {x : Str} {T : String} {r : DRB} {p : Pos} (hc : BiD X (.type T) r) (hg : Gl X x) (hm : X.mg x = none) (hv : bootBuiltins x = some (.type T)) (ha : JA X (e :: es) ts) (hn : x ≠ "__name__" := by decide) (hdb : (x == ("__debug__" : Str)) = false := by decide)
    (he : starEach (e :: es) X.env = (false, eval e X.env) :: starEach es X.env := by rfl) (hpl : (backTo pos (starEach es X.env)).any (·.1) = false := by rfl) : JE X (.Call (.Name x p) (e :: es) [] pos) (dBi r ts) := by
  obtain ⟨R, hC, hR⟩ := hc
  exact (pe_callTy hC hg hm hv ha hn hdb he hpl).imp fun _ _ _ h => lift_bi hR h
theorem rb1 {K : PySem.W.Frag} {F H : Hp} {x : Dt} {us : List V} (r : RepBs K F H [x] us) : ∃ u, us = [u] ∧ RepB K F H x u := by
  obtain ⟨u, r', rfl, h1, h2⟩ := r
  have e : r' = [] := h2
  rw [e]
  exact ⟨u, rfl, h1⟩
def bLen : DRB := fun xs P => match xs with
  | [.lst ys] => P (.int ys.length)
  | [.tup ys] => P (.int ys.length)
  | [.str s] => s.length ≤ sizeLine ∧ P (.int s.length)
  | _ => False
theorem b_len : BiD X (.builtin "len") bLen := ⟨_, L2.call_len, fun W F A m σ H xs us P Q G rs q c => by
  unfold bLen at q
  split at q
  · obtain ⟨u, rfl, ru⟩ := rb1 rs
    obtain ⟨l, vs, rfl, hl, rl⟩ := ru
    rw [rl.length] at q
    exact ⟨_, vs.length, rfl, .inl ⟨vs, .inl hl, rfl⟩, c F H _ _ (Same.refl _) G rep_int q⟩
  · obtain ⟨u, rfl, ru⟩ := rb1 rs
    obtain ⟨l, vs, rfl, hl, rl⟩ := repB_tup ru
    rw [rl.length] at q
    exact ⟨_, vs.length, rfl, .inr ⟨vs, seqT_mono G.ext hl, rfl⟩, c F H _ _ (Same.refl _) G rep_int q⟩
  · obtain ⟨u, rfl, ru⟩ := rb1 rs
    rw [repB_str ru]
    exact ⟨_, _, rfl, ⟨q.1, rfl⟩, c F H _ _ (Same.refl _) G rep_int q.2⟩
  · exact q.elim⟩
def bAbs : DRB := fun xs P => match xs with
  | [.int i] => P (.int (if i < 0 then -i else i))
  | _ => False
theorem b_abs : BiD X (.builtin "abs") bAbs := ⟨_, L2.call_abs, fun W F A m σ H xs us P Q G rs q c => by
  unfold bAbs at q
  split at q
  · obtain ⟨u, rfl, ru⟩ := rb1 rs
    rw [repB_int ru]
    exact ⟨_, rfl, c F H _ _ (Same.refl _) G rep_int q⟩
  · exact q.elim⟩
def bInt : DRB := fun xs P => match xs with
  | [.int i] => P (.int i)
  | [.bl k] => P (.int (if k then 1 else 0))
  | _ => False
theorem b_int : BiD X (.type "int") bInt := ⟨_, L2.call_int1, fun W F A m σ H xs us P Q G rs q c => by
  unfold bInt at q
  split at q
  · obtain ⟨u, rfl, ru⟩ := rb1 rs
    rw [repB_int ru]
    exact .inl ⟨_, rfl, c F H _ _ (Same.refl _) G rep_int q⟩
  · obtain ⟨u, rfl, ru⟩ := rb1 rs
    rw [repB_bl ru]
    exact .inr ⟨_, rfl, c F H _ _ (Same.refl _) G rep_int q⟩
  · exact q.elim⟩
def bList : DRB := fun xs P => match xs with
  | [.lst ys] => P (.lst ys)
  | [.tup ys] => P (.lst ys)
  | _ => False
theorem lst_laid {K : PySem.W.Frag} {W F : Hp} {A : List Addr} {m : M} {σ : L2.St} {H : Hp} {T : Addr} {ds : List Dt} {vs : List V} (G : Good K W F A m σ H) (n : H T = none) (r : Reps K F ds vs) : ∃ F2, Same F F2 ∧ Good K W F2 A m σ (upd H T (.lst vs)) ∧ Rep K F2 (.lst ds) (.ref T) := by
  have s := same_upd (o := .lst vs) (G.ext.free n)
  refine ⟨upd F T (.lst vs), s, G.laid n, ?_⟩
  simp only [Rep]
  exact ⟨T, vs, rfl, Rd.of upd_same, Reps.mono s r⟩
theorem b_list : BiD X (.type "list") bList := ⟨_, L2.call_list_of, fun W F A m σ H xs us P Q G rs q c => by
  unfold bList at q
  split at q
  · obtain ⟨u, rfl, ru⟩ := rb1 rs
    obtain ⟨l, vs, rfl, hl, rl⟩ := ru
    refine ⟨l, vs, rfl, .inl (.inl hl), fun p np => ?_⟩
    obtain ⟨F2, s2, G2, r2⟩ := lst_laid G np rl
    exact c F2 _ _ _ s2 G2 r2 q
  · obtain ⟨u, rfl, ru⟩ := rb1 rs
    obtain ⟨l, vs, rfl, hl, rl⟩ := repB_tup ru
    refine ⟨l, vs, rfl, .inr (seqT_mono G.ext hl), fun p np => ?_⟩
    obtain ⟨F2, s2, G2, r2⟩ := lst_laid G np rl
    exact c F2 _ _ _ s2 G2 r2 q
  · exact q.elim⟩
def dListO (ts : DA) : DE := fun m Q => ts m fun vs m1 => onVs m1 vs fun xs => bList xs fun z => match z with
  | .lst ys => Q (.c m1.st.length) ⟨m1.sl, m1.st ++ [.lst ys]⟩
  | _ => False
theorem je_listO {x : Str} {p : Pos} (hg : Gl X x) (hm : X.mg x = none) (hv : bootBuiltins x = some (.type "list")) (ha : JA X (e :: es) ts) (hn : x ≠ "__name__" := by decide) (hdb : (x == ("__debug__" : Str)) = false := by decide)
    (he : starEach (e :: es) X.env = (false, eval e X.env) :: starEach es X.env := by rfl) (hpl : (backTo pos (starEach es X.env)).any (·.1) = false := by rfl) : JE X (.Call (.Name x p) (e :: es) [] pos) (dListO ts) := by
  refine (pe_callTy L2.call_list_of hg hm hv ha hn hdb he hpl).imp fun σ H Q hh => ?_
  obtain ⟨W, F, A, m, Qd, G, h, c⟩ := hh
  refine ⟨W, F, A, m, _, G, h, fun F1 A1 vs m1 H1 s1 p1 G1 q1 us r1 => ?_⟩
  obtain ⟨xs, rs, q⟩ := onVs_elim G1 r1 q1
  have fin : ∀ {ys : List Dt} {ws : List V}, Reps X.K F1 ys ws → (Qd (.c m1.st.length) ⟨m1.sl, m1.st ++ [.lst ys]⟩) → ∀ l, H1 l = none → Q (.ref l) (upd H1 l (.lst ws)) := fun {ys ws} r q p np =>
    c F1 (A1 ++ [p]) _ _ _ s1 (p1.trans ⟨[p], rfl⟩) (G1.own np r) q _ ⟨p, by rw [← G1.len]; simp, rfl⟩
  unfold bList at q
  split at q
  · obtain ⟨u, rfl, ru⟩ := rb1 rs
    obtain ⟨l, vs, rfl, hl, rl⟩ := ru
    exact ⟨l, vs, rfl, .inl (.inl hl), fin rl q⟩
  · obtain ⟨u, rfl, ru⟩ := rb1 rs
    obtain ⟨l, vs, rfl, hl, rl⟩ := repB_tup ru
    exact ⟨l, vs, rfl, .inr (seqT_mono G1.ext hl), fin rl q⟩
  · exact q.elim

inductive Ty where
  | tuple | int | bool | list | str
def Ty.name : Ty → String
  | .tuple => "tuple"
  | .int => "int"
  | .bool => "bool"
  | .list => "list"
  | .str => "str"
end
end RT

set_option maxRecDepth 100000
set_option maxHeartbeats 4000000
namespace RT
open PySem PySem.Spec PyProof.Rows L2
variable [Gh : Ghost]
section
variable {X : Cx} {a b e o : Expr} {es : List Expr} {ta tb t to : DE} {ts : DA} {pos : Pos}

abbrev DO := M → (Option Int → M → Prop) → Prop
def liftO (K : PySem.W.Frag) (t : DO) : TO := fun σ H Q => ∃ W F A m Qd, Good K W F A m σ H ∧ t m Qd ∧ After K W F A σ Qd fun _ _ b H' => Q b H'
abbrev JO (X : Cx) (e : Option Expr) (t : DO) : Prop := PO X e (liftO X.K t)
theorem _root_.L2.PO.imp {X : Cx} {e : Option Expr} {t t' : TO} (h : PO X e t) (f : ∀ σ H Q, t' σ H Q → t σ H Q) : PO X e t' := ⟨fun pins s σ H Q I q => h.run pins s σ H Q I (f _ _ _ q)⟩
def dNoP : DO := fun m Q => Q none m
def dPart (t : DE) : DO := fun m Q => t m fun v m1 => match v with
  | .d (.int i) => Q (some i) m1
  | _ => False
theorem jo_none : JO X none dNoP := po_none.imp fun σ H Q ⟨W, F, A, m, Qd, G, h, c⟩ => c F A none m H (Same.refl _) (pre_refl _) G h
theorem int_elim {v : Vl} {P : Int → Prop} (h : match v with
  | .d (.int i) => P i
  | _ => False) : ∃ i, v = .d (.int i) ∧ P i := by
  split at h
  · exact ⟨_, rfl, h⟩
  · exact h.elim
theorem jo_some (h : JE X e t) : JO X (some e) (dPart t) := by
  refine (po_some h).imp fun σ H Q hh => ?_
  obtain ⟨W, F, A, m, Qd, G, h, c⟩ := hh
  refine ⟨W, F, A, m, _, G, h, fun F1 A1 v m1 H1 s1 p1 G1 q1 u r1 => ?_⟩
  obtain ⟨i, rfl, q⟩ := int_elim q1
  exact ⟨i, repB_int (H := H1) r1, c F1 A1 _ m1 H1 s1 p1 G1 q⟩
def cutD (xs : List Dt) (lo hi : Option Int) : List Dt := (xs.drop (HT.sIx xs.length 0 lo)).take (HT.sIx xs.length xs.length hi - HT.sIx xs.length 0 lo)
theorem reps_cut {K : PySem.W.Frag} {F : Hp} {xs : List Dt} {vs : List V} (r : Reps K F xs vs) (lo hi : Option Int) : Reps K F (cutD xs lo hi) (cutV vs lo hi) := by
  unfold cutD cutV
  rw [r.length]
  exact (r.drop _).take _
theorem cut_whole {K : PySem.W.Frag} {F : Hp} {xs : List Dt} {vs : List V} (r : Reps K F xs vs) {lo hi : Option Int} (h : HT.sIx vs.length 0 lo = 0 ∧ HT.sIx vs.length vs.length hi = vs.length) : cutD xs lo hi = xs := by
  unfold cutD
  rw [r.length, h.1, h.2, ← r.length]
  simp
def dSl (own : Bool) (t : DE) (lo hi : DO) : DE := fun m Q => t m fun v m1 => lo m1 fun l m2 => hi m2 fun h m3 => onV m3 v fun x => match x with
  | .lst xs => if own = true then Q (.c m3.st.length) ⟨m3.sl, m3.st ++ [.lst (cutD xs l h)]⟩ else Q (.d (.lst (cutD xs l h))) m3
  | .tup xs => Q (.d (.tup (cutD xs l h))) m3
  | _ => False
theorem je_sl (own : Bool) {lo hi : Option Expr} {tl th : DO} {p2 : Pos} (he : JE X e t) (hl : JO X lo tl) (hu : JO X hi th) : JE X (.Subscript e (.Slice lo hi none p2) pos) (dSl own t tl th) := by
  refine (pe_slice (sl_list.or sl_tupA) he hl hu).imp fun σ H Q hh => ?_
  obtain ⟨W, F, A, m, Qd, G, h, c⟩ := hh
  refine ⟨W, F, A, m, _, G, h, fun F1 A1 v m1 H1 s1 p1 G1 q1 u r1 => ⟨W, F1, A1, m1, _, G1, q1, fun F2 A2 l m2 H2 s2 p2 G2 q2 => ⟨W, F2, A2, m2, _, G2, q2, fun F3 A3 h m3 H3 s3 p3 G3 q3 => ?_⟩⟩⟩
  obtain ⟨x, ex, q3⟩ := onV_elim q3
  have rx := G3.view (RepV.mono (s2.trans s3) (p2.trans p3) r1) ex
  have s13 := s1.trans (s2.trans s3)
  have p13 := p1.trans (p2.trans p3)
  cases x with
  | lst xs =>
    obtain ⟨a, vs, rfl, hd, rs⟩ := rx
    refine .inl ⟨a, vs, rfl, .inl hd, fun p np => ?_⟩
    have q4 : if own = true then Qd (.c m3.st.length) ⟨m3.sl, m3.st ++ [.lst (cutD xs l h)]⟩ else Qd (.d (.lst (cutD xs l h))) m3 := q3
    have rc := reps_cut rs l h
    cases own with
    | true => exact c F3 (A3 ++ [p]) _ _ _ s13 (p13.trans ⟨[p], rfl⟩) (G3.own np rc) q4 _ ⟨p, by rw [← G3.len]; simp, rfl⟩
    | false =>
      obtain ⟨F4, s4, G4, r4⟩ := lst_laid G3 np rc
      exact c F4 A3 _ m3 _ (s13.trans s4) p13 G4 q4 _ r4
  | tup xs =>
    have rx' := rx
    obtain ⟨a, vs, rfl, hd, rs⟩ := repB_tup rx
    refine .inr ⟨a, vs, rfl, seqT_mono G3.ext hd, fun hw => ?_, fun hw p np => ?_⟩
    · have q4 : Qd (.d (.tup (cutD xs l h))) m3 := q3
      rw [cut_whole rs hw] at q4
      exact c F3 A3 _ m3 _ s13 p13 G3 q4 _ rx'
    · obtain ⟨F4, s4, G4, r4⟩ := tup_laid G3 np (reps_cut rs l h)
      exact c F4 A3 _ m3 _ (s13.trans s4) p13 G4 q3 _ r4
  | _ => exact (show False from q3).elim

abbrev MOp := List Dt → List Dt → (List Dt → Dt → Prop) → Prop
def dMeth (op : MOp) (to : DE) (ts : DA) : DE := fun m Q => to m fun v m1 => match v with
  | .c k => (∃ zs, m1.st[k]? = some (.lst zs)) ∧ ts m1 fun vs m2 => onDs vs fun ys => onC m2.st k fun xs => op xs ys fun xs' r => Q (.d r) ⟨m2.sl, m2.st.set k (.lst xs')⟩
  | _ => False
def MetD (X : Cx) (id : String) (op : MOp) : Prop := ∃ R, MtR X id R ∧ ∀ (F H : Hp) (a : Addr) (xs ys : List Dt) (vs us : List V) (P : List Dt → Dt → Prop) (Q : VK), H a = some (.lst vs) → Reps X.K F xs vs → Reps X.K F ys us → op xs ys P →
  (∀ xs' ws r u, Reps X.K F xs' ws → Rep X.K F r u → P xs' r → Q u (upd H a (.lst ws))) → R (.ref a) us H Q
theorem cell_elim {v : Vl} {P : Nat → Prop} (h : match v with
  | .c k => P k
  | _ => False) : ∃ k, v = .c k ∧ P k := by
  split at h
  · exact ⟨_, rfl, h⟩
  · exact h.elim
theorem je_meth {op : MOp} {id : String} {name : Str} {apos cpos : Pos} (slot : Slot "list" name id) (hty : typeOf (.builtin id) = pure (.type "method_descriptor")) (hm : MetD X id op) (ho : JE X o to) (ha : JA X (e :: es) ts)
    (hbase : attributeBase o name X.env (eval o X.env) = eval o X.env := by rfl)
    (hfew : ((backTo cpos (starEach (e :: es) X.env)).all (fun x => !x.1) && (backToKw cpos (keywordEach [] X.env)).all (fun x => x.1.isSome)
      && decide ((e :: es).length + ([] : List Keyword).length + (if ([] : List Keyword).isEmpty then 0 else 1) < 30)) = true := by rfl)
    (hline : (apos.endLine == cpos.line) = true := by rfl) (hs : starEach (e :: es) X.env = (false, eval e X.env) :: starEach es X.env := by rfl) (hplain : (backTo cpos (starEach es X.env)).any (·.1) = false := by rfl) :
    JE X (.Call (.Attribute o name apos) (e :: es) [] cpos) (dMeth op to ts) := by
  obtain ⟨R, hR, hv⟩ := hm
  refine (pe_bm PySem.F.plainAttrs_list slot hty hR ho ha hbase hfew hline hs hplain).imp fun σ H Q hh => ?_
  obtain ⟨W, F, A, m, Qd, G, h, c⟩ := hh
  refine ⟨W, F, A, m, _, G, h, fun F1 A1 v m1 H1 s1 p1 G1 q1 u r1 => ?_⟩
  obtain ⟨k, rfl, ⟨zs, ez⟩, q1⟩ := cell_elim q1
  obtain ⟨a, ha', rfl⟩ := r1
  obtain ⟨a', ws, h1, h2, _, _⟩ := G1.st k zs ez
  rw [ha'] at h1
  cases h1
  refine ⟨.inl ⟨rfl, _, SqL.of h2⟩, W, F1, A1, m1, _, G1, q1, fun F2 A2 vs m2 H2 s2 p2 G2 q2 us r2 => ?_⟩
  obtain ⟨ys, rfl, q3⟩ := onDs_elim q2
  obtain ⟨xs, ex, q2⟩ := onC_elim q3
  obtain ⟨a', vs', g1, g2, g3, _⟩ := G2.st k xs ex
  obtain ⟨_, hka, ek⟩ := RepV.mono (K := X.K) s2 p2 (show RepV X.K F1 A1 (.c k) (.ref a) from ⟨a, ha', rfl⟩)
  cases ek
  rw [hka] at g1
  cases g1
  exact hv F2 H2 a xs ys vs' us _ Q g2 g3 (reps_of r2) q2 fun xs' ws r u rw' ru pq => c F2 A2 (.d r) _ _ (s1.trans s2) (p1.trans p2) (G2.write ex hka rw') pq u ru
theorem je_meth0 {op : MOp} {id : String} {name : Str} {apos cpos : Pos} (slot : Slot "list" name id) (hty : typeOf (.builtin id) = pure (.type "method_descriptor")) (hm : MetD X id op) (ho : JE X o to)
    (hbase : attributeBase o name X.env (eval o X.env) = eval o X.env := by rfl) (hline : (apos.endLine == cpos.line) = true := by rfl) :
    JE X (.Call (.Attribute o name apos) [] [] cpos) (dMeth op to dNil) := by
  obtain ⟨R, hR, hv⟩ := hm
  refine (pe_bm0 PySem.F.plainAttrs_list slot hty hR ho hbase hline).imp fun σ H Q hh => ?_
  obtain ⟨W, F, A, m, Qd, G, h, c⟩ := hh
  refine ⟨W, F, A, m, _, G, h, fun F1 A1 v m1 H1 s1 p1 G1 q1 u r1 => ?_⟩
  obtain ⟨k, rfl, ⟨zs, ez⟩, q1⟩ := cell_elim q1
  obtain ⟨a, ha', rfl⟩ := r1
  have q2 : onC m1.st k fun xs => op xs [] fun xs' r => Qd (.d r) ⟨m1.sl, m1.st.set k (.lst xs')⟩ := q1
  obtain ⟨xs, ex, q2⟩ := onC_elim q2
  obtain ⟨a', vs', g1, g2, g3, _⟩ := G1.st k xs ex
  rw [ha'] at g1
  cases g1
  exact ⟨.inl ⟨rfl, _, SqL.of g2⟩, hv F1 H1 a xs [] vs' [] _ Q g2 g3 .nil q2 fun xs' ws r u rw' ru pq => c F1 A1 (.d r) _ _ s1 p1 (G1.write ex ha' rw') pq u ru⟩
theorem reps1 {K : PySem.W.Frag} {F : Hp} {y : Dt} {us : List V} (r : Reps K F [y] us) : ∃ u, us = [u] ∧ Rep K F y u := by
  simp only [Reps] at r
  obtain ⟨u, r', rfl, h1, rfl⟩ := r
  exact ⟨u, rfl, h1⟩
def mAppend : MOp := fun xs ys P => match ys with
  | [y] => xs.length < sizeLine ∧ P (xs ++ [y]) .non
  | _ => False
theorem m_append : MetD X "list.append" mAppend := ⟨_, mt_append, fun F H a xs ys vs us P Q hH r r' q c => by
  unfold mAppend at q
  split at q
  · obtain ⟨u, rfl, ru⟩ := reps1 r'
    exact ⟨a, vs, u, rfl, rfl, hH, by rw [← r.length]; exact q.1, c _ _ .non .non (r.append (.cons ru .nil)) rep_non q.2⟩
  · exact q.elim⟩
def onJ (o : Option Nat) (P : Nat → Prop) : Prop := match o with
  | some j => P j
  | none => False
theorem onJ_elim {o : Option Nat} {P : Nat → Prop} (h : onJ o P) : ∃ j, o = some j ∧ P j := by
  cases o with
  | none => exact h.elim
  | some j => exact ⟨j, rfl, h⟩
def dSetIx (te to ti : DE) : DS := fun E m => te m fun v m1 => onD v fun d => to m1 fun w m2 => ti m2 fun u m3 => match w with
  | .c k => match u with
    | .d (.int i) => onC m3.st k fun xs => onJ (ixN xs.length i) fun j => E.nx ⟨m3.sl, m3.st.set k (.lst (xs.set j d))⟩
    | _ => False
  | _ => False
theorem js_setIx {te ti : DE} {tg : Expr} (he : JE X e te) (hg : PG X tg (gSub (lift X.K to) (lift X.K ti) rSetL))
    (hs : swapsWithSole [tg] e pos.line X.env = pure false := by rfl) (hw : swappedStores [tg] e X.env = pure none := by rfl)
    (h1 : (assignEach [tg] X.env).map (·.2) = [assign tg X.env] := by rfl) : JS X (.Assign [tg] e pos) (dSetIx te to ti) := by
  refine (ps_asg he hg hs hw h1).imp fun D σ H hh => ?_
  obtain ⟨W, F, A, m, E, G, h, c⟩ := hh
  refine ⟨W, F, A, m, _, G, h, fun F1 A1 v m1 H1 s1 p1 G1 q1 u r1 => ?_⟩
  obtain ⟨d, rfl, q1⟩ := onD_elim q1
  refine ⟨W, F1, A1, m1, _, G1, q1, fun F2 A2 w m2 H2 s2 p2 G2 q2 u2 r2 => ⟨W, F2, A2, m2, _, G2, q2, fun F3 A3 z m3 H3 s3 p3 G3 q3 u3 r3 => ?_⟩⟩
  obtain ⟨k, rfl, q3⟩ := cell_elim q3
  obtain ⟨i, rfl, q3⟩ := int_elim q3
  obtain ⟨xs, ex, q3⟩ := onC_elim q3
  obtain ⟨j, ej, q3⟩ := onJ_elim q3
  · obtain ⟨a, hka, rfl⟩ := RepV.mono s3 p3 r2
    obtain ⟨a', vs, g1, g2, g3, _⟩ := G3.st k xs ex
    rw [hka] at g1
    cases g1
    refine ⟨a, vs, i, j, rfl, repB_int (H := H3) r3, g2, by rw [← g3.length]; exact ej, ?_⟩
    have rd : Rep X.K F3 d u := Rep.mono (s2.trans s3) r1
    exact c.nx F3 A3 _ σ _ (s1.trans (s2.trans s3)) (p1.trans (p2.trans p3)) (G3.write ex hka (Reps.set rd j g3)) q3
end

def dLcGo (sl : List (Option Vl)) (slw : List (Option Vl)) (g : Tgt) (tt : DT) (te : DE) (all : List Dt) (lk : Option Nat) (K : List Dt → M → Prop) : List Dt → List Dt → List Cell → Prop
  | [], acc, st => lockOk lk all ⟨sl, st⟩ ∧ K acc ⟨sl, st⟩
  | x :: xs, acc, st => lockOk lk all ⟨sl, st⟩ ∧ tgD g (.d x) ⟨slw, st⟩ fun m1 => tt m1 fun b m2 => if b = true then te m2 fun v m3 => onD v fun d => acc.length < sizeLine ∧ dLcGo sl slw g tt te all lk K xs (acc ++ [d]) m3.st
    else dLcGo sl slw g tt te all lk K xs acc m2.st
def wipeD (sl : List (Option Vl)) : List Nat → List (Option Vl)
  | [] => sl
  | v :: vs => (wipeD sl vs).set v none
def dYes : DT := fun m Q => Q true m
def dLc (own : Bool) (di : DI) (g : Tgt) (tt : DT) (te : DE) (vs : List Nat) : DE := fun m Q => di m fun xs lk m1 => dLcGo m1.sl (wipeD m1.sl vs) g tt te xs lk (fun acc m2 => if own = true then Q (.c m2.st.length) ⟨m2.sl, m2.st ++ [.lst acc]⟩ else Q (.d (.lst acc)) m2) xs [] m1.st
theorem Good.wipe {K : PySem.W.Frag} {W F : Hp} {A : List Addr} {m : M} {σ : L2.St} {H : Hp} (G : Good K W F A m σ H) : ∀ vs : List Nat, Good K W F A ⟨wipeD m.sl vs, m.st⟩ (L2.wipe σ vs) H
  | [] => G
  | v :: vs => by
    have G1 := G.wipe vs
    refine ⟨G1.ext, G1.hid, G1.dj, by show ((wipeD m.sl vs).set v none).length = ((L2.wipe σ vs).set v none).length; rw [List.length_set, List.length_set]; exact G1.slen, fun i w e => ?_, G1.len, G1.st, G1.nd, G1.tb, G1.gh⟩
    have e' : ((wipeD m.sl vs).set v none)[i]? = some (some w) := e
    rw [List.getElem?_set] at e'
    show ∃ u : V, ((L2.wipe σ vs).set v none)[i]? = some (some u) ∧ _
    rw [List.getElem?_set]
    by_cases hv : v = i
    · rw [if_pos hv] at e'
      split at e' <;> cases e'
    · rw [if_neg hv] at e' ⊢
      exact G1.sl i w e'
section
variable {K : PySem.W.Frag} {W F F' : Hp} {A A' : List Addr} {m : M} {σ : L2.St} {H H' : Hp} {D : Addr} {o o' : HO}
theorem Good.hide (G : Good K W F A m σ H) (n : H D = none) : Good K (upd W D o) F A m σ (upd H D o) := by
  refine ⟨G.ext.trans (same_upd n), same_upd2 G.hid, fun b x e => ?_, G.slen, G.sl, G.len, fun k xs e => ?_, G.nd, fun q hq => ⟨tab_upd (G.tb q hq).1 n, (G.tb q hq).2.1, by rw [upd_ne (tab_some (G.tb q hq).1 n)]; exact (G.tb q hq).2.2⟩, Ghost.mono G.gh (SameO.of (same_upd (G.hid.free n))) (Same.refl _) (pre_refl _)⟩
  · by_cases hb : b = D
    · rw [hb]
      exact G.ext.free n
    · rw [upd_ne hb] at e
      exact G.dj b x e
  · obtain ⟨a, vs, h1, h2, h3, h4, h5⟩ := G.st k xs e
    have ne : a ≠ D := ne_of_none h2 n
    exact ⟨a, vs, h1, by rw [upd_ne ne]; exact h2, h3, h4, by rw [upd_ne ne]; exact h5⟩
theorem Good.rehide (G : Good K (upd W D o) F A m σ H) (hk : ¬ ObjK o := by exact id) : Good K (upd W D o') F A m σ (upd H D o') := by
  have fD : F D = none := G.dj D o upd_same
  refine ⟨fun b x e => ?_, fun b x e => ?_, fun b x e => ?_, G.slen, G.sl, G.len, fun k xs e => ?_, G.nd, fun q hq => ?_, Ghost.mono G.gh (fun a o ko e => by
    by_cases hb : a = D
    · rw [hb, upd_same] at e
      cases e
      exact (hk ko).elim
    · rw [upd_ne hb] at e ⊢
      exact e) (Same.refl _) (pre_refl _)⟩
  rotate_left 4
  · obtain ⟨⟨ps, t1, ok⟩, t2, t3⟩ := G.tb q hq
    have ne : q.2 ≠ D := fun z => by
      rw [z, upd_same] at t3
      cases t3
    exact ⟨⟨ps, by rw [upd_ne ne]; exact t1, ok⟩, t2, by rw [upd_ne ne] at t3 ⊢; exact t3⟩
  · have hb : b ≠ D := fun z => by
      rw [z, fD] at e
      cases e
    rw [upd_ne hb]
    exact G.ext _ _ e
  · by_cases hb : b = D
    · subst hb
      rw [upd_same] at e ⊢
      exact e
    · rw [upd_ne hb] at e ⊢
      exact G.hid b x (by rw [upd_ne hb]; exact e)
  · by_cases hb : b = D
    · rw [hb]
      exact fD
    · rw [upd_ne hb] at e
      exact G.dj b x (by rw [upd_ne hb]; exact e)
  · obtain ⟨a, vs, h1, h2, h3, h4, h5⟩ := G.st k xs e
    have ne : a ≠ D := fun z => by
      rw [z, upd_same] at h5
      cases h5
    exact ⟨a, vs, h1, by rw [upd_ne ne]; exact h2, h3, h4, by rw [upd_ne ne] at h5 ⊢; exact h5⟩
theorem Good.show (G : Good K (upd W D (.lst us)) F A m σ H) (nW : W D = none) (r : Reps K F xs us) : Same F (upd F D (.lst us)) ∧ Good K W (upd F D (.lst us)) A m σ H ∧ Rep K (upd F D (.lst us)) (.lst xs) (.ref D) := by
  have fD : F D = none := G.dj D _ upd_same
  have s := same_upd (o := .lst us) fD
  have sW : Same W (upd W D (.lst us)) := same_upd nW
  refine ⟨s, ⟨fun b x e => ?_, sW.trans G.hid, fun b x e => ?_, G.slen, fun i v e => ?_, G.len, fun k xs e => ?_, G.nd, fun q hq => ?_, Ghost.mono G.gh SameO.unl s (pre_refl _)⟩, ?_⟩
  rotate_left 4
  · obtain ⟨t1, t2, t3⟩ := G.tb q hq
    have ne : q.2 ≠ D := fun z => by
      rw [z, upd_same] at t3
      cases t3
    exact ⟨t1, by rw [upd_ne ne]; exact t2, by rw [upd_ne ne] at t3; exact t3⟩
  rotate_right 4
  · by_cases hb : b = D
    · subst hb
      rw [upd_same] at e
      cases e
      exact G.hid _ _ upd_same
    · rw [upd_ne hb] at e
      exact G.ext _ _ e
  · have hb : b ≠ D := fun z => by
      rw [z, nW] at e
      cases e
    rw [upd_ne hb]
    exact G.dj b x (sW _ _ e)
  · obtain ⟨u, h1, h2⟩ := G.sl i v e
    exact ⟨u, h1, RepV.mono s (pre_refl _) h2⟩
  · obtain ⟨a, vs, h1, h2, h3, h4, h5⟩ := G.st k xs e
    have ne : a ≠ D := fun z => by
      rw [z, upd_same] at h5
      cases h5
    rw [upd_ne ne] at h5
    exact ⟨a, vs, h1, h2, Reps.mono s h3, by rw [upd_ne ne]; exact h4, h5⟩
  · simp only [Rep]
    exact ⟨D, us, rfl, Rd.of upd_same, Reps.mono s r⟩
theorem Good.showOwn (G : Good K (upd W D (.lst us)) F A m σ H) (nW : W D = none) (r : Reps K F xs us) : Good K W F (A ++ [D]) ⟨m.sl, m.st ++ [.lst xs]⟩ σ H := by
  have fD : F D = none := G.dj D _ upd_same
  have hD : H D = some (.lst us) := G.hid _ _ upd_same
  have sW : Same W (upd W D (.lst us)) := same_upd nW
  have pr : A <+: A ++ [D] := ⟨[D], rfl⟩
  have at_ : ∀ k, k < m.st.length → (A ++ [D])[k]? = A[k]? := fun k hk => List.getElem?_append_left (by rw [G.len]; exact hk)
  have lst_ : (A ++ [D])[m.st.length]? = some D := by rw [← G.len]; simp
  have old : ∀ k, k < m.st.length → (m.st ++ [Cell.lst xs])[k]? = m.st[k]? := fun k hk => List.getElem?_append_left hk
  have new : ∀ k c, ¬ k < m.st.length → (m.st ++ [Cell.lst xs])[k]? = some c → k = m.st.length ∧ c = .lst xs := fun k c hk e => by
    have hk2 := (List.getElem?_eq_some_iff.mp e).1
    rw [List.length_append, List.length_singleton] at hk2
    have ek : k = m.st.length := by omega
    subst ek
    rw [List.getElem?_append_right (Nat.le_refl _), Nat.sub_self] at e
    exact ⟨rfl, (Option.some.inj e).symm⟩
  have nA : ∀ k zs, k < m.st.length → (m.st ++ [Cell.lst xs])[k]? = some (.lst zs) → (A ++ [D])[k]? = some D → False := fun k zs hk e h => by
    obtain ⟨a', _, q1, _, _, _, q5⟩ := G.st k zs ((old k hk).symm.trans e)
    rw [at_ k hk, q1] at h
    cases h
    rw [upd_same] at q5
    cases q5
  refine ⟨G.ext, sW.trans G.hid, fun b x e => G.dj b x (sW _ _ e), G.slen, fun i v e => ?_, by simp [G.len], fun k ys e => ?_, fun j k ys zs a e1 e2 h1 h2 => ?_, fun q hq => ⟨(G.tb q hq).1, (G.tb q hq).2.1, by
    have t3 := (G.tb q hq).2.2
    have ne : q.2 ≠ D := fun z => by
      rw [z, upd_same] at t3
      cases t3
    rw [upd_ne ne] at t3
    exact t3⟩, Ghost.mono G.gh SameO.unl (Same.refl _) pr⟩
  · obtain ⟨u, h1, h2⟩ := G.sl i v e
    exact ⟨u, h1, RepV.mono (Same.refl _) pr h2⟩
  · by_cases hk : k < m.st.length
    · have e' : m.st[k]? = some (.lst ys) := (old k hk).symm.trans e
      obtain ⟨a, ws, h1, h2, h3, h4, h5⟩ := G.st k ys e'
      have ne : a ≠ D := fun z => by
        rw [z, upd_same] at h5
        cases h5
      rw [upd_ne ne] at h5
      exact ⟨a, ws, (at_ k hk).trans h1, h2, h3, h4, h5⟩
    · obtain ⟨ek, ec⟩ := new k _ hk e
      subst ek
      cases ec
      exact ⟨D, us, lst_, hD, r, fD, nW⟩
  · by_cases hj : j < m.st.length
    · by_cases hk : k < m.st.length
      · exact G.nd j k ys zs a ((old j hj).symm.trans e1) ((old k hk).symm.trans e2) ((at_ j hj).symm.trans h1) ((at_ k hk).symm.trans h2)
      · obtain ⟨ek, _⟩ := new k _ hk e2
        subst ek
        rw [lst_] at h2
        cases h2
        exact (nA j ys hj e1 h1).elim
    · obtain ⟨ej, _⟩ := new j _ hj e1
      subst ej
      by_cases hk : k < m.st.length
      · rw [lst_] at h1
        cases h1
        exact (nA k zs hk e2 h2).elim
      · obtain ⟨ek, _⟩ := new k _ hk e2
        exact ek.symm
end
theorem lift_lc {K : PySem.W.Frag} (own : Bool) {di : DI} {g : Tgt} {tt : DT} {te : DE} {vs : List Nat} (hv : ∀ i ∈ tgSlots g, i ∈ vs) {σ : L2.St} {H : Hp} {Q : VK} (h : lift K (dLc own di g tt te vs) σ H Q) : tLc (liftI K di) (tgH K g) (liftT K tt) (lift K te) vs σ H Q := by
  obtain ⟨W, F, A, m, Qd, G, h, c⟩ := h
  refine ⟨W, F, A, m, _, G, h, fun F1 A1 xs lk m1 H1 s1 p1 G1 q1 J w => ?_⟩
  intro D hD
  have nW : W D = none := G1.hid.free hD
  let Kd : List Dt → M → Prop := fun acc m2 => if own = true then Qd (.c m2.st.length) ⟨m2.sl, m2.st ++ [.lst acc]⟩ else Qd (.d (.lst acc)) m2
  refine ⟨fun i n H' => ∃ F' A' st' acc us, Same F1 F' ∧ A1 <+: A' ∧ Good K (upd W D (.lst us)) F' A' ⟨m1.sl, st'⟩ σ H' ∧ Reps K F' acc us ∧ i + n = xs.length ∧ dLcGo m1.sl (wipeD m1.sl vs) g tt te xs lk Kd (xs.drop i) acc st', ⟨xs.length, F1, A1, m1.st, [], [], Same.refl _, pre_refl _, G1.hide hD, .nil, Nat.zero_add _, q1⟩, ?_⟩
  rintro i n H2 ⟨F2, A2, st2, acc, us, s2, p2, G2, r2, en, q2⟩
  by_cases hlt : i < xs.length
  · refine .inr ?_
    have ed : xs.drop i = xs[i] :: xs.drop (i + 1) := List.drop_eq_getElem_cons hlt
    rw [ed] at q2
    obtain ⟨hl, q2⟩ := q2
    obtain ⟨hgo, hy⟩ := w.go (upd W D (.lst us)) F2 A2 ⟨m1.sl, st2⟩ σ H2 i xs[i] s2 p2 G2 hl (List.getElem?_eq_getElem hlt)
    refine ⟨hgo, fun H' => ∃ F' A' st' acc us, Same F1 F' ∧ A1 <+: A' ∧ Good K (upd W D (.lst us)) F' A' ⟨m1.sl, st'⟩ σ H' ∧ Reps K F' acc us ∧ dLcGo m1.sl (wipeD m1.sl vs) g tt te xs lk Kd (xs.drop (i + 1)) acc st', fun H' hN => ?_, fun v H3 y => ?_⟩
    · obtain ⟨F', A', st', acc', us', s', p', G', r', q'⟩ := hN
      exact ⟨n - 1, by omega, F', A', st', acc', us', s', p', G', r', by omega, q'⟩
    · obtain ⟨F3, s3, G3, r3⟩ := hy v H3 y
      have G3w := G3.wipe vs
      -- from a state within the turn back to the outer names
      have outer : ∀ {F' A' σ' m' H' us'}, Same F3 F' → A2 <+: A' → Good K (upd W D (.lst us')) F' A' m' σ' H' → Good K (upd W D (.lst us')) F' A' ⟨m1.sl, m'.st⟩ σ H' := fun {F' A' σ' m' H' us'} sF pA G' =>
        ⟨G'.ext, G'.hid, G'.dj, G1.slen, fun i v e => by
          obtain ⟨u, h1, h2⟩ := G1.sl i v e
          exact ⟨u, h1, RepV.mono (s2.trans (s3.trans sF)) (p2.trans pA) h2⟩, G'.len, G'.st, G'.nd, G'.tb, G'.gh⟩
      refine tg_ok (m := ⟨wipeD m1.sl vs, st2⟩) (v := .d xs[i]) G3w r3 q2 fun m' σ' G' hw q' => ⟨?_, ?_⟩
      · have h1 := hw vs hv
        rw [h1]
        have idem : ∀ (l : List Nat) (vs : List Nat) (σ : L2.St), (∀ i ∈ l, i ∈ vs) → L2.wipe (L2.wipe σ vs) l = L2.wipe σ vs := by
          intro l
          induction l with
          | nil =>
            intro vs σ _
            rfl
          | cons z l ih =>
            intro vs σ hz
            show (L2.wipe (L2.wipe σ vs) l).set z none = L2.wipe σ vs
            rw [ih vs σ (fun i hi => hz i (List.mem_cons_of_mem _ hi))]
            have hm : z ∈ vs := hz z List.mem_cons_self
            apply List.ext_getElem?
            intro j
            rw [List.getElem?_set]
            by_cases hj : z = j
            · rw [if_pos hj]
              subst hj
              split
              · rename_i hl
                cases q : (L2.wipe σ vs)[z]? with
                | none =>
                  rw [List.getElem?_eq_none_iff] at q
                  omega
                | some o =>
                  cases o with
                  | none => rfl
                  | some x => exact absurd hm (wipe_some q).2
              · rename_i hl
                exact (List.getElem?_eq_none_iff.mpr (by omega)).symm
            · rw [if_neg hj]
        exact idem vs vs σ (fun _ h => h)
      · refine ⟨upd W D (.lst us), F3, A2, m', _, G', q', fun F4 A4 b m4 H4 s4 p4 G4 q4 => ?_⟩
        cases b with
        | false =>
          have q5 : dLcGo m1.sl (wipeD m1.sl vs) g tt te xs lk Kd (xs.drop (i + 1)) acc m4.st := q4
          exact ⟨F4, A4, m4.st, acc, us, s2.trans (s3.trans s4), p2.trans p4, outer s4 p4 G4, Reps.mono (s3.trans s4) r2, q5⟩
        | true =>
          refine ⟨upd W D (.lst us), F4, A4, m4, _, G4, q4, fun F5 A5 z m5 H5 s5 p5 G5 q5 u5 r5 => ?_⟩
          obtain ⟨d, rfl, hsz, q5⟩ := onD_elim q5
          have hD5 : H5 D = some (.lst us) := G5.hid _ _ upd_same
          refine ⟨us, hD5, by rw [← r2.length]; exact hsz, ?_⟩
          exact ⟨F5, A5, m5.st, acc ++ [d], us ++ [u5], s2.trans (s3.trans (s4.trans s5)), p2.trans (p4.trans p5), outer (s4.trans s5) (p4.trans p5) G5.rehide,
            (Reps.mono (s3.trans (s4.trans s5)) r2).append (.cons r5 .nil), q5⟩
  · have e : i = xs.length := by omega
    subst e
    rw [List.drop_length] at q2
    obtain ⟨hl, q2⟩ := q2
    refine .inl ⟨w.stop (upd W D (.lst us)) F2 A2 ⟨m1.sl, st2⟩ σ H2 s2 p2 G2 hl, ?_⟩
    have q3 : if own = true then Qd (.c st2.length) ⟨m1.sl, st2 ++ [.lst acc]⟩ else Qd (.d (.lst acc)) ⟨m1.sl, st2⟩ := q2
    cases own with
    | true => exact c F2 (A2 ++ [D]) _ _ _ (s1.trans s2) (p1.trans (p2.trans ⟨[D], rfl⟩)) (G2.showOwn nW r2) q3 _ ⟨D, by rw [← G2.len]; simp, rfl⟩
    | false =>
      obtain ⟨s3, G3, r3⟩ := G2.show nW r2
      exact c _ A2 _ _ _ (s1.trans (s2.trans s3)) (p1.trans p2) G3 q3 _ r3
abbrev JTs (X : Cx) (ifs : List Expr) (t : DT) : Prop := PTs X ifs (liftT X.K t)
section
variable {X : Cx} {pos : Pos}
theorem _root_.L2.PTs.imp {X : Cx} {e : List Expr} {t t' : TT} (h : PTs X e t) (f : ∀ σ H Q, t' σ H Q → t σ H Q) : PTs X e t' := ⟨fun pins s σ H Q I q => h.run pins s σ H Q I (f _ _ _ q)⟩
theorem jts_nil : JTs X [] dYes := pts_nil.imp fun σ H Q ⟨W, F, A, m, Qd, G, h, c⟩ => c F A true m H (Same.refl _) (pre_refl _) G h
theorem je_lc (own : Bool) {elt tg iter : Expr} {ifs : List Expr} {scope : Scope} {own' : List (Str × Nat)} {di : DI} {g : Tgt} {tt : DT} {te : DE} (hv : ∀ i ∈ tgSlots g, i ∈ own'.map (·.2)) (hc : X.calm = true) (hN : X.N.Nodup) (hi : JI X tg iter di) (ok : BlkOk X.N X.env.scope scope own')
    (hg : ∀ (s : Shared) (H : Hp) (C : Addr) (cl : List (Str × Addr)) (fp : List Addr), PG (X.blk s H scope (compEnvC scope cl C X.env) fp) tg (tgH X.K g)) (ht : ∀ (s : Shared) (H : Hp) (C : Addr) (cl : List (Str × Addr)) (fp : List Addr), JTs (X.blk s H scope (compEnvC scope cl C X.env) fp) ifs tt)
    (he : ∀ (s : Shared) (H : Hp) (C : Addr) (cl : List (Str × Addr)) (fp : List Addr), JE (X.blk s H scope (compEnvC scope cl C X.env) fp) elt te) (hs : ∀ x, foldedSetIterable iter X.env x = pure x := by intro _; rfl) :
    JE X (.ListComp elt [⟨tg, iter, ifs, 0⟩] scope pos) (dLc own di g tt te (own'.map (·.2))) :=
  (pe_lc (tt := liftT X.K tt) (te := lift X.K te) hc hN hi ok hg ht he hs).imp fun _ _ _ h => lift_lc own hv h
theorem js_setLc (own : Bool) {i : Nat} {y : Str} {py : Pos} {elt tg iter : Expr} {ifs : List Expr} {scope : Scope} {own' : List (Str × Nat)} {spos : Pos} {di : DI} {g : Tgt} {tt : DT} {te : DE} (hv : ∀ i ∈ tgSlots g, i ∈ own'.map (·.2)) (hc : X.calm = true) (hN : X.N.Nodup) (hy : X.N[i]? = some y) (hyl : X.env.scope.names.lookup y = some .local)
    (hsw : swapsWith (.ListComp elt [⟨tg, iter, ifs, 0⟩] scope pos) (some (.Name y py)) spos.line X.env = pure true) (hi : JI X tg iter di) (ok : BlkOk X.N X.env.scope scope own')
    (hg : ∀ (s : Shared) (H : Hp) (C : Addr) (cl : List (Str × Addr)) (fp : List Addr), PG (X.blk s H scope (compEnvC scope cl C X.env) fp) tg (tgH X.K g)) (ht : ∀ (s : Shared) (H : Hp) (C : Addr) (cl : List (Str × Addr)) (fp : List Addr), JTs (X.blk s H scope (compEnvC scope cl C X.env) fp) ifs tt)
    (he : ∀ (s : Shared) (H : Hp) (C : Addr) (cl : List (Str × Addr)) (fp : List Addr), JE (X.blk s H scope (compEnvC scope cl C X.env) fp) elt te) (hs : ∀ x, foldedSetIterable iter X.env x = pure x := by intro _; rfl) :
    JS X (.Assign [.Name y py] (.ListComp elt [⟨tg, iter, ifs, 0⟩] scope pos) spos) (dSet i (dLc own di g tt te (own'.map (·.2)))) := by
  refine (ps_setLc (tt := liftT X.K tt) (te := lift X.K te) hc hN hy hyl hsw hi ok hg ht he hs).imp fun D σ H hh => ?_
  have h2 : tAsg (lift X.K (dLc own di g tt te (own'.map (·.2)))) (gName i) D σ H := lift_set hh
  exact lift_lc own hv h2
end
end RT

set_option maxRecDepth 100000
set_option maxHeartbeats 4000000
namespace RT
open PySem PySem.Spec PyProof.Rows L2

def notLst (o : Obj) : Bool := match o.cls with
  | .type c => decide (c ≠ "list")
  | _ => true
def frN (g : Addr → Option Obj) (as : List Addr) : PySem.W.Frag := (He.frG g as).filter fun q => notLst q.2 && !He.emptyTab q.2
theorem frN_mem' {g : Addr → Option Obj} {as : List Addr} {a : Addr} {o : Obj} (h : (a, o) ∈ He.frG g as) : g a = some o := by
  unfold He.frG at h
  obtain ⟨b, _, e⟩ := List.mem_filterMap.mp h
  cases hb : g b with
  | none =>
    rw [hb] at e
    cases e
  | some u =>
    rw [hb] at e
    have e2 : (b, u) = (a, o) := Option.some.inj e
    injection e2 with e3 e4
    rw [← e3, ← e4]
    exact hb
theorem lookup_mem' {a : Addr} {o : Obj} : ∀ {l : List (Addr × Obj)}, l.lookup a = some o → (a, o) ∈ l
  | [], h => by cases h
  | (b, u) :: r, h => by
    have h2 : (match a == b with | true => some u | false => r.lookup a) = some o := h
    cases q : (a == b) with
    | true =>
      rw [q] at h2
      have e : u = o := Option.some.inj h2
      rw [beq_iff_eq.mp q, e]
      exact List.mem_cons_self
    | false =>
      rw [q] at h2
      exact List.mem_cons_of_mem _ (lookup_mem' h2)
theorem frN_mem {g : Addr → Option Obj} {as : List Addr} {a : Addr} {o : Obj} (h : (frN g as).lookup a = some o) : g a = some o ∧ notLst o = true ∧ He.emptyTab o = false := by
  obtain ⟨h1, h2⟩ := List.mem_filter.mp (lookup_mem' h)
  obtain ⟨h3, h4⟩ := Bool.and_eq_true_iff.mp h2
  exact ⟨frN_mem' h1, h3, by simpa using h4⟩
theorem frN_in {as : List Addr} {h : Heap} : (frN h.get? as).In h := fun _ _ e => (frN_mem e).1
def NoLst (K : PySem.W.Frag) : Prop := ∀ a o, K.lookup a = some o → notLst o = true
structure TabsOk (K : PySem.W.Frag) (h : Heap) : Prop where
  cd : ∀ q ∈ tabsK K, PySem.W.codeHdIn K q.1 q.2 = true
  out : ∀ q ∈ tabsK K, K.lookup q.2 = none
  get : ∀ q ∈ tabsK K, h.get? q.2 = some { cls := .none, data := .fields #[] }
def tabsBK (g : Addr → Option Obj) (K : PySem.W.Frag) : Bool := (tabsK K).all fun q => PySem.W.codeHdIn K q.1 q.2 && (match g q.2 with
  | some o => He.emptyTab o
  | none => false)
theorem tabsBK_ok {as : List Addr} {h : Heap} (e : tabsBK h.get? (frN h.get? as) = true) : TabsOk (frN h.get? as) h := by
  have key : ∀ q ∈ tabsK (frN h.get? as), PySem.W.codeHdIn (frN h.get? as) q.1 q.2 = true ∧ ∃ o, h.get? q.2 = some o ∧ He.emptyTab o = true := fun q hq => by
    obtain ⟨h3, h4⟩ := Bool.and_eq_true_iff.mp (List.all_eq_true.mp e q hq)
    refine ⟨h3, ?_⟩
    cases z : h.get? q.2 with
    | none =>
      rw [z] at h4
      cases h4
    | some o =>
      rw [z] at h4
      exact ⟨o, rfl, h4⟩
  refine ⟨fun q hq => (key q hq).1, fun q hq => ?_, fun q hq => ?_⟩
  · obtain ⟨_, o, z, t⟩ := key q hq
    cases y : (frN h.get? as).lookup q.2 with
    | none => rfl
    | some u =>
      obtain ⟨z1, _, z2⟩ := frN_mem y
      rw [z] at z1
      cases z1
      rw [t] at z2
      cases z2
  · obtain ⟨_, o, z, t⟩ := key q hq
    rw [z, He.emptyTab_eq t]
abbrev AlR : Type := Bool × He.AlD

theorem fn_dtD {P : Program} {w : World} {K : PySem.W.Frag} {mg : Str → Option Value} {base : Heap} {x qual : Str} {params : Arguments} {body : List Stmt} {scope : Scope} {dvs : List V} {kws : List (Str × V)} {f : Addr} {fd : FuncData} {N ps : List Str} {k : Nat} {sp : FSpec} {b : DS} (kp : Bool) (hns : BaseOk K mg base) (htr : P.given.tree = none)
    (F : FunD K x qual params body scope dvs kws f fd) (S : FnScope N ps scope)
    (hd : ∀ (X : Cx) (cdv : Value) (A : Around) (outer : List Env) (s : Shared) (H : Hp) (E : XK), X = (cxOf CX0 P w K mg base N qual scope f cdv A outer s H E).nox → CodeIs K f cdv → Amb k X → JSs X body b)
    (hsp : ∀ args st0 Qd, sp args st0 Qd → args.length = ps.length ∧ b (endsOf kp st0.length Qd) (startM N.length args st0)) : Fnn P w K mg base CX0 (k + 1) f fd ps (liftSp K sp) := by
  obtain ⟨oc, od, dV, kV, doc, pm, an, cdv, ct, osl, rfl, lk, hcd, _, _⟩ := F.ex
  refine fnn_of hns htr lk hcd S (fun vs H Q E h => ?_) fun A outer s H vs Q E amb h => ?_
  · obtain ⟨W, F1, A1, st1, args, Qd, G, r, q, c⟩ := h
    rw [← r.length]
    exact (hsp _ _ _ q).1
  · obtain ⟨W, F1, A1, st1, args, Qd, G, r, q, c⟩ := h
    have h1 := hd (cxOf CX0 P w K mg base N qual scope f cdv A outer s H E).nox cdv A outer s H E rfl ⟨oc, od, _, osl, lk, rfl⟩ ⟨amb.rm, amb.py, amb.tb⟩
    refine ⟨_, PSs.nox h1, ?_⟩
    have hl := r.length
    refine ⟨W, F1, A1, startM N.length args st1, endsOf kp st1.length Qd, ⟨G.ext, G.hid, G.dj, ?_, ?_, G.len, G.st, G.nd, G.tb, G.gh⟩, (hsp _ _ _ q).2, ⟨?_, ?_, ?_, ?_⟩⟩
    · unfold startM L2.start
      simp [hl]
    · intro i v e
      unfold startM at e
      unfold L2.start
      rw [← hl]
      exact repVs_slots r _ i v e
    · intro F' A' m' σ' H' s' p' G' q'
      exact retD_ok (kp := kp) (v := .d .non) (u := .non) G.len s' p' G' rv_non q' c
    · intro F' A' m' σ' H' v u s' p' G' r' q'
      exact retD_ok (kp := kp) G.len s' p' G' r' q' c
    · intro F' A' m' σ' H' _ _ _ q'
      exact q'
    · intro F' A' m' σ' H' _ _ _ q'
      exact q'

theorem law_callR {P : Program} {w : World} {K : PySem.W.Frag} {mg mb : Str → Option Value} {k : Nat} {fa a : Addr} {fd : FuncData} {x : Str} {sp : Sp} {s₁ : Shared} {vs : List Value} {ns : List Int}
    (KX : K.In s₁.heap) (nl : NoLst K) (tk : TabsOk K s₁.heap) (hns : s₁.heap.Ns mainGlobals mg) (hb : s₁.heap.Ns builtinsNs mb) (hbb : ∀ x : Str, x ≠ "__name__" → mb x = bootBuiltins x) (hlim : s₁.heap.NoLimit) (hseer : s₁.heap.NoSeer) (hg : s₁.gens = #[])
    (hbm : ∃ (bm : Addr) (ob : Obj), mg "__builtins__" = some (.ref bm) ∧ bm ≠ builtinsNs ∧ s₁.heap.get? bm = some ob ∧ ob.cls = .type "module" ∧ ob.dict = some builtinsNs ∧ ob.data = .plain)
    (ha : s₁.heap.get? a = some { cls := .type "list", data := .seq vs.toArray }) (hi : IntsAre vs ns) (hl : ns.length ≤ sizeLine) (hr : GRoom k callerA)
    (F : ∀ base : Heap, K.In base → base.Ns mainGlobals mg → BaseOk K mg base → Fnn P w K mg base CX0 k fa fd [x] sp) (hbind : ∀ (s : Shared) (u : Value), BindsTo s fd ⟨[u], []⟩ [(x, u)])
    (hsp : ∀ (H : Hp) (o : Obj), H a = some (.frz o (.lst (ns.map V.int))) → (∀ q ∈ tabsK K, H q.2 = some (.tbl #[])) → sp [.ref a] H (fun v _ => v = .bl true) E0) :
    codeAny (model P w) callerA (.call (.ref fa) ⟨[.ref a], []⟩) (fun r s' => r = .ok (.ret (.bool true)) ∧ OldK s₁.heap s'.heap ∧ s'.os = s₁.os ∧ AllBare s'.gens) s₁ := by
  have rv := vals_ints hi
  have lenV := hi.length
  have hk : K.lookup a = none := by
    cases q : K.lookup a with
    | none => rfl
    | some o =>
      have e := KX a o q
      rw [ha] at e
      have e2 := Option.some.inj e
      have := nl a o q
      rw [← e2] at this
      have z : notLst { cls := .type "list", data := .seq vs.toArray } = false := by
        show decide ("list" ≠ "list") = false
        decide
      rw [z] at this
      cases this
  have isT : ∀ b : Addr, b ∈ (tabsK K).map (·.2) → s₁.heap.get? b = some { cls := .none, data := .fields #[] } := fun b hb => by
    obtain ⟨p, hp, e⟩ := List.mem_map.mp hb
    rw [← e]
    exact tk.get p hp
  have aT : a ∉ (tabsK K).map (·.2) := fun z => by
    have q := isT a z
    rw [ha] at q
    have z' : Data.seq vs.toArray _ = Data.fields #[] := congrArg Obj.data (Option.some.inj q)
    cases z'
  have memT : ∀ p ∈ tabsK K, p.2 ∈ (tabsK K).map (·.2) := fun p hp => List.mem_map.mpr ⟨p, hp, rfl⟩
  let H : Hp := fun b => if b = a then some (.frz { cls := .type "list", data := .seq vs.toArray } (.lst (ns.map V.int))) else if b ∈ (tabsK K).map (·.2) then some (.tbl #[]) else none
  have Ha : H a = some (.frz { cls := .type "list", data := .seq vs.toArray } (.lst (ns.map V.int))) := if_pos rfl
  have Ht : ∀ b ∈ (tabsK K).map (·.2), H b = some (.tbl #[]) := fun b hb => (if_neg (show ¬ b = a from fun z => aT (z ▸ hb))).trans (if_pos hb)
  have Hn : ∀ b, b ≠ a → b ∉ (tabsK K).map (·.2) → H b = none := fun b hb hb2 => (if_neg hb).trans (if_neg hb2)
  have hok : HOk P w H s₁.heap := fun b u z => by
    by_cases hb : b = a
    · subst hb
      rw [Ha] at z
      cases z
      exact ⟨ha, by rw [List.length_map]; exact hl, vs, _, rv, ha⟩
    · by_cases hb2 : b ∈ (tabsK K).map (·.2)
      · rw [Ht b hb2] at z
        cases z
        exact isT b hb2
      · rw [Hn b hb hb2] at z
        cases z
  have base_of : ∀ {b : Addr} {o : Obj}, s₁.heap.get? b = some o → H b = none → (hidT s₁.heap H).get? b = some o := fun e n => hidT_get e n
  have noC : ∀ {b : Addr} {o : Obj}, s₁.heap.get? b = some o → o.cls ≠ .type "list" → o.cls ≠ .none → H b = none := fun {b o} e d d2 => by
    refine Hn b (fun z => ?_) fun z => ?_
    · subst z
      rw [ha] at e
      cases e
      exact absurd rfl d
    · rw [isT b z] at e
      cases e
      exact absurd rfl d2
  have noA : ∀ {b : Addr} {o : Obj} {es : Array DictEntry} {ep : Nat}, s₁.heap.get? b = some o → o.data = .dict es ep → H b = none := fun {b o es ep} e d => by
    refine Hn b (fun z => ?_) fun z => ?_
    · subst z
      rw [ha] at e
      cases e
      have d' : Data.seq vs.toArray _ = Data.dict es ep := d
      cases d'
    · rw [isT b z] at e
      cases e
      cases d
  have nsK : ∀ {b : Addr} {m : Str → Option Value}, s₁.heap.Ns b m → (hidT s₁.heap H).Ns b m := fun {b m} ⟨o, es, ep, e, d, r⟩ => ⟨o, es, ep, base_of e (noA e d), d, r⟩
  have hKb : K.In (hidT s₁.heap H) := fun b o e => base_of (KX b o e) (by
    refine Hn b (fun z => ?_) fun z => ?_
    · subst z
      rw [hk] at e
      cases e
    · obtain ⟨p, hp, ep⟩ := List.mem_map.mp z
      rw [← ep, tk.out p hp] at e
      cases e)
  have hM : Mod K mg (hidT s₁.heap H) := ⟨hKb, nsK hns, ⟨mb, nsK hb, hbb⟩, let ⟨mc, h1, h2⟩ := hlim; ⟨mc, nsK h1, h2⟩⟩
  have hS : (hidT s₁.heap H).NoSeer := ⟨let ⟨mc, a, b⟩ := hseer.statics; ⟨mc, nsK a, b⟩, let ⟨mc, a, b⟩ := hseer.mods; ⟨mc, nsK a, b⟩, let ⟨mc, a, b⟩ := hseer.imp; ⟨mc, nsK a, b⟩,
    let ⟨mg, bm, ob, a, b, c, d, e⟩ := hseer.main; ⟨mg, bm, ob, nsK a, b, base_of c (noC c (by rw [d]; decide) (by rw [d]; intro z; cases z)), d, e⟩⟩
  have TB : ∀ p ∈ tabsK K, GxR.TabB (hidT s₁.heap H) mg p.1 p.2 := fun p hp => by
    have hTp := tk.get p hp
    refine ⟨PySem.W.codeHd_of_K hKb (tk.cd p hp), ?_, fun z => ?_⟩
    · obtain ⟨bm, ob, b1, b2, b3, b4, b5, b6⟩ := hbm
      have nG : bm ≠ mainGlobals := fun q => by
        obtain ⟨o, es, ep, e, hd, _⟩ := hns
        rw [q, e] at b3
        cases b3
        rw [hd] at b6
        cases b6
      have nP : bm ≠ p.2 := fun q => by
        rw [q, hTp] at b3
        cases b3
        cases b6
      exact ⟨bm, ob, b1, b2, nG, nP, base_of b3 (noC b3 (by rw [b4]; decide) (by rw [b4]; intro z; cases z)), b4, b5, b6⟩
    · obtain ⟨o, es, ep, e, hd, _⟩ := hns
      rw [z, hTp] at e
      cases e
      cases hd
  have e0 : Env0 P w K mg (hidT s₁.heap H) callerA [] s₁ H := ⟨rfl, hM, fun b o e => of_hidT e, Nat.le_of_eq (hidT_size _ _), trivial, fun b hb => absurd (show b ∈ ([] : List Addr) from hb) (by simp), hok, .of_eq hg⟩
  refine codeAny_mono ((F _ hKb (nsK hns) ⟨hS, TB⟩).run callerA [] s₁ H ⟨[.ref a], []⟩ [.ref a] [.ref a] _ _ hr e0 (hbind s₁ (.ref a)) (.cons rfl .nil) (hsp H _ Ha fun q hq => Ht _ (memT q hq))) fun r s' h => ?_
  cases r with
  | error e => exact (show False from h).elim
  | ok fl =>
    cases fl with
    | next => exact False.elim h
    | brk => exact False.elim h
    | cont => exact False.elim h
    | ret u =>
      obtain ⟨v, H', os, bare, un, hok', r', q⟩ := h
      have q' : v = .bl true := q
      subst q'
      obtain rfl : u = Value.bool true := r'
      have key : ∀ b o, b ∉ (tabsK K).map (·.2) → s₁.heap.get? b = some o → s'.heap.get? b = some o := fun b o nb e => by
        by_cases hb : b = a
        · subst hb
          have z2 := un.frzs b _ _ Ha
          obtain ⟨e1, _⟩ := hok b _ Ha
          obtain ⟨e2, _⟩ := hok' b _ z2
          rw [e] at e1
          cases e1
          exact e2
        · exact un.keep b o e (Hn b hb nb) (by intro z; exact absurd (show b ∈ ([] : List Addr) from z) (by simp)) (by simp)
      have grown : ∀ p ∈ tabsK K, ∃ more : Array Value, s'.heap.get? p.2 = some { cls := .none, data := .fields more } := fun p hp => by
        obtain ⟨more, z⟩ := un.tbls p.2 #[] (Ht _ (memT p hp))
        exact ⟨_, hok' p.2 _ z⟩
      refine ⟨rfl, ⟨fun b o e => ?_, fun b o e => ?_⟩, os, bare⟩
      · by_cases hb : b ∈ (tabsK K).map (·.2)
        · obtain ⟨p, hp, ep⟩ := List.mem_map.mp hb
          obtain ⟨more, hm⟩ := grown p hp
          rw [← ep] at e ⊢
          rw [tk.get p hp] at e
          cases e
          exact .inr (.inl ⟨((PySem.W.codeHd_of_K KX (tk.cd p hp)).tab (tk.get p hp)).isCodeTable, rfl, #[], more, rfl, by rw [Array.empty_append]; exact hm⟩)
        · exact .inl (key b o hb e)
      · by_cases hb : b ∈ (tabsK K).map (·.2)
        · obtain ⟨p, hp, ep⟩ := List.mem_map.mp hb
          obtain ⟨more, hm⟩ := grown p hp
          rw [← ep]
          exact ⟨_, hm⟩
        · exact ⟨o, key b o hb e⟩
def LawD (n : Nat) (sp : FSpec) : Prop := ∀ ns : List Int, ns.length ≤ n → (∀ z ∈ ns, Builtin.Int.intBits z ≤ 1048576) → sp [.d (.lst (ns.map .int))] [] fun r _ => r = .d (.bl true)
theorem good0 {K : PySem.W.Frag} {F H : Hp} (s : Same F H) (t : ∀ q ∈ tabsK K, GxR.TabG H q.2 ∧ F q.2 = none) : Good K (fun _ => none) F [] ⟨[], []⟩ [] H where
  ext := s
  hid := fun _ _ e => nomatch e
  dj := fun _ _ e => nomatch e
  slen := rfl
  sl := fun i v e => by simp at e
  len := rfl
  st := fun k xs e => by simp at e
  nd := fun j k xs ys a e => by simp at e
  tb := fun q hq => ⟨(t q hq).1, (t q hq).2, rfl⟩
  gh := True.intro
theorem reps_ints {K : PySem.W.Frag} {F : Hp} : ∀ ns : List Int, Reps K F (ns.map .int) (ns.map V.int)
  | [] => .nil
  | n :: ns => .cons rep_int (reps_ints ns)
theorem walk_R {l : PySem.W.OpenLaw} {n k : Nat} {q : Program} {loose : List Str} {XP : (Str → Option Value) → Heap → Prop} {YP : World → Heap → Prop} {d : DefRec} {x : Str} {sp : FSpec}
    (hn : l.most = some n) (hn2 : n ≤ sizeLine) (hdf : d.params.defaults = []) (hr : GRoom k callerA) (hi : importsNone q = true) (law : LawD n sp)
    (F : ∀ (w : World) (mg : Str → Option Value) (fa : Addr) (h : Heap), YP w h → h.Ns mainGlobals mg → mg d.name = some (.ref fa) →
      ∃ (K : PySem.W.Frag) (fd : FuncData), K.In h ∧ NoLst K ∧ TabsOk K h ∧ (∀ (s : Shared) (u : Value), BindsTo s fd ⟨[u], []⟩ [(x, u)]) ∧
        ∀ base : Heap, K.In base → base.Ns mainGlobals mg → BaseOk K mg base → Fnn l.prog w K mg base CX0 k fa fd [x] (liftSp K sp)) :
    PySem.W.WalkO q loose XP YP l.row.toRowW d [] (fun f vs => PySem.call f vs) := by
  refine Att.attach_callB hn hdf fun w s₀ s₁ mg mb fa o pm cd doc a vs ns G Y ho hd hcd hmg hobj hints hlen hbits hg => ?_
  obtain ⟨K, fd, KX, nl, tk, hb, hF⟩ := F w mg fa _ Y G.T.g hmg
  refine law_callR KX nl tk G.T.g G.T.b G.T.builtins G.T.nolimit (G.T.seer hi) hg G.T.bmain hobj hints (Nat.le_trans hlen hn2) hr hF hb fun H ob hS hT => ?_
  have sF : Same (fun b => if b = a then H b else none) H := fun b o e => by
    by_cases hb : b = a
    · have e' := (if_pos hb).symm.trans e
      exact e'
    · have e' := (if_neg hb).symm.trans e
      cases e'
  refine ⟨fun _ => none, fun b => if b = a then H b else none, [], [], [.d (.lst (ns.map .int))], _, good0 sF (fun q hq => ⟨⟨#[], hT q hq, trivial⟩, if_neg (fun z => ?_)⟩), ⟨.ref a, [], rfl, ?_, rfl⟩, law ns hlen hbits, fun F' A' st' H' r u _ _ _ r' q' => ?_⟩
  · have := hT q hq
    rw [z, hS] at this
    cases this
  · show Rep K _ (.lst (ns.map .int)) (.ref a)
    simp only [Rep]
    exact ⟨a, _, rfl, .inr ⟨ob, (if_pos rfl).trans hS⟩, reps_ints ns⟩
  · rw [q'] at r'
    exact repB_bl (H := H') r'
end RT

set_option maxRecDepth 100000
set_option maxHeartbeats 4000000
namespace RT
open PySem PySem.Spec PyProof.Rows L2
section
variable [Gh : Ghost]

def rAddA : DR2 := fun x y P => match x, y with
  | .int i, .int j => P (.int (i + j))
  | .str i, .str j => i.length + j.length ≤ sizeLine ∧ P (.str (i ++ j))
  | .tup xs, .tup ys => xs.length + ys.length ≤ sizeLine ∧ P (.tup (xs ++ ys))
  | .lst xs, .lst ys => xs.length + ys.length ≤ sizeLine ∧ P (.lst (xs ++ ys))
  | _, _ => False
section
variable {X : Cx}
theorem o_addA : OpD X (binaryOp .Add) rAddA := ⟨_, (op_add.or op_add_str).or (op_catA.or op_catR), fun W F A m σ H x y u v P Q G rx ry q c => by
  unfold rAddA at q
  split at q
  · exact .inl (.inl ⟨_, _, repB_int rx, repB_int ry, c F H _ _ (Same.refl _) G rep_int q⟩)
  · exact .inl (.inr ⟨_, _, repB_str rx, repB_str ry, q.1, c F H _ _ (Same.refl _) G rep_str q.2⟩)
  · rename_i xs ys
    obtain ⟨R, hR, hv⟩ := o_catT (X := X)
    obtain ⟨l, vs, rfl, hl, rl⟩ := repB_tup rx
    obtain ⟨b, ws, rfl, hb, rb⟩ := repB_tup ry
    refine .inr (.inl ⟨l, b, vs, ws, rfl, rfl, seqT_mono G.ext hl, seqT_mono G.ext hb, by rw [← rl.length, ← rb.length]; exact q.1, fun e => ?_, fun e e2 => ?_, fun _ _ p np => ?_⟩)
    · have e1 := reps_nil rl e
      subst e1
      exact c F H _ _ (Same.refl _) G ry q.2
    · have e1 := reps_nil rb e2
      subst e1
      have q2 := q.2
      rw [List.append_nil] at q2
      exact c F H _ _ (Same.refl _) G rx q2
    · obtain ⟨F2, s2, G2, r2⟩ := tup_laid G np (rl.append rb)
      exact c F2 _ _ _ s2 G2 r2 q.2
  · rename_i xs ys
    obtain ⟨l, vs, rfl, hl, rl⟩ := rx
    obtain ⟨b, ws, rfl, hb, rb⟩ := ry
    refine .inr (.inr ⟨l, b, vs, ws, rfl, rfl, hl, hb, by rw [← rl.length, ← rb.length]; exact q.1, fun p np => ?_⟩)
    obtain ⟨F2, s2, G2, r2⟩ := lst_laid G np (rl.append rb)
    exact c F2 _ _ _ s2 G2 r2 q.2
  · exact q.elim⟩

def iAny (K : PySem.W.Frag) (tl : TE) : TI := fun σ H R => tl σ H fun x H1 => ∃ a, x = .ref a ∧ (((∃ xs, SqL K H1 a xs) ∧ R (Itl K a) H1) ∨ ((∃ xs, SqT K H1 a xs) ∧ R (Itt K a) H1))
theorem pi_any {tg l : Expr} {tl : TE} (hl : PE X l tl) : PI X tg l (iAny X.K tl) := by
  refine ⟨fun pins s σ H R I h => ?_⟩
  refine thn (hl.run pins s σ H _ I h) fun v s1 ⟨x, H1, I1, r1, a, ex, q⟩ => ?_
  subst ex
  cases r1
  rcases q with ⟨⟨xs, hs⟩, q⟩ | ⟨⟨xs, hs⟩, q⟩
  · obtain ⟨its, rv, p, hz⟩ := I1.list hs
    refine wpAny_pyIter_list p.isList ?_
    refine ⟨s1.heap.objs.size, [s1.heap.objs.size], _, _, H1, rfl, I1.kept (t' := s1.toks) fun b o e => Heap.get?_push_of_some _ e, turn_list a _, ⟨_, Heap.get?_push_size _ rfl, rfl, rfl⟩, fun b hb => ?_, q⟩
    have e : b = s1.heap.objs.size := by simpa using hb
    subst e
    exact I1.fpOk (Nat.le_refl _) (I1.hok.fresh (Nat.le_refl _))
  · obtain ⟨its, rv, p, hz⟩ := I1.tuple hs
    refine wpAny_pyIter_tuple (show s1.heap.IsTuple a its.toArray from p) ?_
    refine ⟨s1.heap.objs.size, [s1.heap.objs.size], _, _, H1, rfl, I1.kept (t' := s1.toks) fun b o e => Heap.get?_push_of_some _ e, turn_tuple a _, ⟨_, Heap.get?_push_size _ rfl, rfl, rfl⟩, fun b hb => ?_, q⟩
    have e : b = s1.heap.objs.size := by simpa using hb
    subst e
    exact I1.fpOk (Nat.le_refl _) (I1.hok.fresh (Nat.le_refl _))
def dAny (t : DE) : DI := fun m Q => t m fun v m1 => match v with
  | .d (.lst xs) => Q xs none m1
  | .d (.tup xs) => Q xs none m1
  | .c k => onC m1.st k fun xs => Q xs (some k) m1
  | _ => False
theorem ji_any {tg l : Expr} {t : DE} (hl : JE X l t) : JI X tg l (dAny t) := by
  refine (pi_any hl).imp fun σ H R hh => ?_
  obtain ⟨W, F, A, m, Qd, G, h, c⟩ := hh
  refine ⟨W, F, A, m, _, G, h, fun F1 A1 v m1 H1 s1 p1 G1 q1 u r1 => ?_⟩
  split at q1
  · rename_i xs
    have r' : Rep X.K F1 (.lst xs) u := r1
    simp only [Rep] at r'
    obtain ⟨a, vs, rfl, hs, rs⟩ := r'
    exact ⟨a, rfl, .inl ⟨⟨vs, .inl (rd_mono G1.ext hs)⟩, c F1 A1 xs none m1 H1 s1 p1 G1 q1 _ (walks_list (.inl hs) rs)⟩⟩
  · rename_i xs
    have r' : Rep X.K F1 (.tup xs) u := r1
    simp only [Rep] at r'
    obtain ⟨a, vs, rfl, hs, rs⟩ := r'
    exact ⟨a, rfl, .inr ⟨⟨vs, seqT_mono G1.ext hs⟩, c F1 A1 xs none m1 H1 s1 p1 G1 q1 _ (walks_tup hs rs)⟩⟩
  · rename_i k
    obtain ⟨xs, e, q1⟩ := onC_elim q1
    obtain ⟨a, ha, rfl⟩ := r1
    obtain ⟨a', vs, h1, h2, h3, _⟩ := G1.st k xs e
    rw [ha] at h1
    cases h1
    exact ⟨a, rfl, .inl ⟨⟨vs, SqL.of h2⟩, c F1 A1 xs (some k) m1 H1 s1 p1 G1 q1 _ (walks_own ha)⟩⟩
  · exact q1.elim

def dChainI (f g : Int → Int → Bool) (ta tb tc : DE) : DE := fun m Q => ta m fun v m1 => tb m1 fun w m2 => match v, w with
  | .d (.int i), .d (.int j) => if f i j = true then tc m2 fun z m3 => match z with
    | .d (.int k) => Q (.d (.bl (g j k))) m3
    | _ => False
    else Q (.d (.bl false)) m2
  | _, _ => False
theorem ii_elim {v w : Vl} {P : Int → Int → Prop} (h : match v, w with
  | .d (.int i), .d (.int j) => P i j
  | _, _ => False) : ∃ i j, v = .d (.int i) ∧ w = .d (.int j) ∧ P i j := by
  split at h
  · exact ⟨_, _, rfl, rfl, h⟩
  · exact h.elim
section
variable {a b e : Expr} {ta tb tc : DE} {pos : Pos} {f g : Int → Int → Bool}
theorem lift_chain {K : PySem.W.Frag} {σ : L2.St} {H : Hp} {Q : VK} (h : lift K (dChainI f g ta tb tc) σ H Q) : tChain (rI0 fun i j => .bl (f i j)) (rI0 fun i j => .bl (g i j)) (lift K ta) (lift K tb) (lift K tc) σ H Q := by
  obtain ⟨W, F, A, m, Qd, G, h, c⟩ := h
  refine ⟨W, F, A, m, _, G, h, fun F1 A1 v m1 H1 s1 p1 G1 q1 u r1 => ⟨W, F1, A1, m1, _, G1, q1, fun F2 A2 w m2 H2 s2 p2 G2 q2 u2 r2 => ?_⟩⟩
  obtain ⟨i, j, ei, ej, q4⟩ := ii_elim q2
  subst ei ej
  have e1 : u = .int i := repB_int (H := H2) r1
  have e2 : u2 = .int j := repB_int (H := H2) r2
  rw [e1, e2]
  refine ⟨i, j, rfl, rfl, _, rfl, ?_⟩
  by_cases hf : f i j = true
  · rw [if_pos hf] at q4 ⊢
    refine ⟨W, F2, A2, m2, _, G2, q4, fun F3 A3 z m3 H3 s3 p3 G3 q3 u3 r3 => ?_⟩
    obtain ⟨k, rfl, q3⟩ := int_elim q3
    have e3 : u3 = .int k := repB_int (H := H3) r3
    rw [e3]
    exact ⟨j, k, rfl, rfl, c F3 A3 _ m3 H3 (s1.trans (s2.trans s3)) (p1.trans (p2.trans p3)) G3 q3 _ rv_bl⟩
  · rw [if_neg hf] at q4 ⊢
    exact c F2 A2 _ m2 H2 (s1.trans s2) (p1.trans p2) G2 q4 _ rv_bl
theorem jt_chain {op op' : CmpOp} (ho : OpR X (compareOp op) (rI0 fun i j => .bl (f i j))) (ho' : OpR X (compareOp op') (rI0 fun i j => .bl (g i j))) (ha : JE X a ta) (hb : JE X b tb) (hc : JE X e tc)
    (hm : lastMarks [op, op'] [b, e] = false := by with_unfolding_all rfl) : JT X (.Compare a [op, op'] [b, e] pos) (dTest (dChainI f g ta tb tc)) := by
  refine (pt_chain ho ho' ha hb hc hm).imp fun σ H Q h => ?_
  obtain ⟨W, F, A, m, Qd, G, h, c⟩ := h
  refine lift_chain ⟨W, F, A, m, _, G, h, fun F1 A1 v m1 H1 s1 p1 G1 q1 u r1 => ?_⟩
  obtain ⟨k, rfl, q⟩ := dTest_elim q1
  exact ⟨k, repB_bl (H := H1) r1, c F1 A1 k m1 H1 s1 p1 G1 q⟩
end

structure SlotOk (X : Cx) (i : Nat) (x : Str) : Prop where
  hN : X.N[i]? = some x
  hl : Loc X.env.scope x
  nd : (x == ("__debug__" : Str)) = false
  nc : (x == ("__classdict__" : Str)) = false
  hf : X.fn x = true ∨ X.env.scope.names.lookup x = some .local
theorem SlotOk.vis {i : Nat} {x : Str} (s : SlotOk X i x) : Vis X.env.scope x := s.hl.elim .inl fun h => .inr (.inl h)
theorem je_v {i : Nat} {x : Str} {pos : Pos} (s : SlotOk X i x) : JE X (.Name x pos) (dVar i) := je_var i s.hN s.vis s.nd s.nc
theorem js_st {i : Nat} {x : Str} {pos pos' : Pos} {e : Expr} {te : DE} (hN : X.N.Nodup) (s : SlotOk X i x) (he : JE X e te) (hs : swapsWith e (some (.Name x pos')) pos.line X.env = pure false := by rfl) : JS X (.Assign [.Name x pos'] e pos) (dSet i te) := js_set hN s.hN s.hl he hs s.hf
theorem pg_v {i : Nat} {x : Str} {pos : Pos} (hN : X.N.Nodup) (s : SlotOk X i x) : PG X (.Name x pos) (gName i) := pg_name hN s.hN s.hl s.hf

def FnG (P : Program) (w : World) (K : PySem.W.Frag) (mg : Str → Option Value) (base : Heap) (x : Str) (k : Nat) (sp : FSpec) (dargs : List Vl) : Prop :=
  ∃ (f : Addr) (fd : FuncData) (ps : List Str) (ds : List Value) (dvs : List V), Fnn P w K mg base CX0 k f fd ps (liftSp K sp) ∧ mg x = some (.ref f) ∧ PySem.W.keepIn K (.ref f) = true ∧ Binds K fd ps ds ∧ Vals dvs ds ∧ ∀ F A, RepVs K F A dargs dvs
theorem je_cg {j k : Nat} {x : Str} {p pos : Pos} {e : Expr} {es : List Expr} {ts : DA} {sp : FSpec} {dargs : List Vl} (F : FnG X.prog X.w X.K X.mg X.base x j sp dargs) (hr : GRoom k X.A) (hg : Gl X x) (ha : JA X (e :: es) ts) (hj : j ≤ k := by decide) (nd : (x == ("__debug__" : Str)) = false := by decide)
    (he : starEach (e :: es) X.env = (false, eval e X.env) :: starEach es X.env := by rfl) (hpl : (backTo pos (starEach es X.env)).any (·.1) = false := by rfl) :
    JE X (.Call (.Name x p) (e :: es) [] pos) (dCall sp dargs ts) := je_call ⟨nd, F⟩ (hr.mono hj) hg ha he hpl
def spOf (kp : Bool) (n N : Nat) (b : DS) : FSpec := fun args st Q => args.length = n ∧ b (endsOf kp st.length Q) (startM N args st)
end
end
theorem mkG {P : Program} {w : World} {K : PySem.W.Frag} {mg : Str → Option Value} {base : Heap} {x y qual : Str} {params : Arguments} {body : List Stmt} {scope : Scope} {kws : List (Str × V)} {f : Addr} {fd : FuncData} {N ps : List Str} {k n m : Nat} {b : DS} (kp : Bool) (hns : BaseOk K mg base) (htr : P.given.tree = none)
    (F : FunD K y qual params body scope [] kws f fd) (hm : mg x = some (.ref f)) (S : FnScope N ps scope) (hn : ps.length = n) (hN : N.length = m)
    (hb : ∀ (kV doc pm : Value) (an : Option Addr) (cdv ct : Value) (us : List Value), us.length = ps.length → bindArgs (PySem.W.fnOf y qual params body scope .none kV doc pm an cdv ct) ⟨us, []⟩ = pure (ps.zip us))
    (hd : ∀ (X : Cx) (cdv : Value) (A : Around) (outer : List Env) (s : Shared) (H : Hp) (E : XK), X = (cxOf CX0 P w K mg base N qual scope f cdv A outer s H E).nox → CodeIs K f cdv → Amb k X → JSs X body b) :
    FnG P w K mg base x (k + 1) (spOf kp n m b) [] := by
  subst hn hN
  exact ⟨f, fd, ps, [], [], fn_dtD kp hns htr F S hd fun args st0 Qd h => h, hm, F.kp, F.bindsN hb, .nil, fun _ _ => rfl⟩
end RT

set_option maxRecDepth 100000
set_option maxHeartbeats 4000000
namespace RT
open PySem PySem.Spec PyProof.Rows L2
abbrev rLt : DR2 := rInt (fun _ _ => True) fun i j => .bl (decide (i < j))
abbrev rLe : DR2 := rInt (fun _ _ => True) fun i j => .bl (decide (i ≤ j))
abbrev rGt : DR2 := rInt (fun _ _ => True) fun i j => .bl (decide (j < i))
abbrev rGe : DR2 := rInt (fun _ _ => True) fun i j => .bl (decide (j ≤ i))
abbrev rSub : DR2 := rInt (fun _ _ => True) fun i j => .int (i - j)
abbrev rMul : DR2 := rInt MulOk fun i j => .int (i * j)
abbrev rDiv : DR2 := rInt (fun _ j => j ≠ 0) fun i j => .int (i.fdiv j)
abbrev rMod : DR2 := rInt (fun _ j => j ≠ 0) fun i j => .int (i.fmod j)
abbrev rPow : DR2 := rInt CPow fun i j => .int (i ^ j.toNat)
theorem boot_len : bootBuiltins "len" = some (.builtin "len") := by decide +kernel
theorem boot_abs : bootBuiltins "abs" = some (.builtin "abs") := by decide +kernel
theorem boot_int : bootBuiltins "int" = some (.type "int") := by decide +kernel
theorem boot_list : bootBuiltins "list" = some (.type "list") := by decide +kernel
section
variable {P : Program} {w : World} {K : PySem.W.Frag} {mg : Str → Option Value} {base : Heap} {x y qual : Str} {params : Arguments} {body : List Stmt} {scope : Scope} {dvs : List V} {kws : List (Str × V)} {f : Addr} {fd : FuncData} {N ps : List Str} {k n m : Nat} {b : DS}
end
end RT
namespace RT
open PySem PySem.Spec PyProof.Rows L2
variable [Gh : Ghost]
theorem gl_of {X : Cx} {sc : Scope} {x : Str} (e : X.env.scope = sc) (h : sc.names.lookup x = some .globalImplicit) : Gl X x := by
  show X.env.scope.names.lookup x = some .globalImplicit
  rw [e]
  exact h
theorem slot_of {X : Cx} {sc : Scope} {N : List Str} {i : Nat} {x : Str} (e : X.env.scope = sc) (eN : X.N = N) (hfn : ∀ x, X.fn x = true) (h : N[i]? = some x) (hl : sc.names.lookup x = some .local ∨ sc.names.lookup x = some .cell) (h1 : (x == ("__debug__" : Str)) = false := by decide) (h2 : (x == ("__classdict__" : Str)) = false := by decide) : SlotOk X i x :=
  ⟨by rw [eN]; exact h, by rw [e]; exact hl, h1, h2, .inl (hfn x)⟩
theorem swap_ok {X : Cx} {x y : Str} {px py pt pt2 : Pos} {kt k2 : Nat} {a b : Expr} (hk : X.env.scope.kind = .function) (hx : X.env.scope.names.lookup x = some .local) (hy : X.env.scope.names.lookup y = some .local) (hxy : ([x, y].eraseDups.length != 2) = false) (hl : (py.line == px.line) = true)
    (hs1 : (match a with | .Starred .. => true | _ => false) = false) (hs2 : (match b with | .Starred .. => true | _ => false) = false) (hf : [a, b].all (foldedForSure 8) = false) (hc : [a, b].all (constantsAlone 8) = false) :
    swappedStores [.Tuple [.Name x px, .Name y py] kt pt] (.Tuple [a, b] k2 pt2) X.env = pure (some [x, y]) := by
  have kx : X.env.kindOf x = some .local := hx
  have ky : X.env.kindOf y = some .local := hy
  have hb : X.env.blockKind = .function := by unfold Env.blockKind; rw [hk]; rfl
  unfold swappedStores
  simp only [hb, List.length_cons, List.length_nil, List.head?_cons, Option.map_some, Option.getD_some, List.filterMap_cons, List.filterMap_nil, kx, ky, Expr.pos, hl, hf, hc, List.any_cons, List.any_nil, hs1, hs2]
  simp only [beq_self_eq_true, Bool.and_self, if_true, List.length_cons, List.length_nil, hxy]
  simp [hxy, hf, hc]
  intro h
  rcases h with h | h
  · cases a <;> first | (simp at h; done) | (simp at hs1; done)
  · cases b <;> first | (simp at h; done) | (simp at hs2; done)
end RT
namespace RT
open PySem PySem.Spec PyProof.Rows L2
variable [Gh : Ghost]
def CstG (K : PySem.W.Frag) (mg : Str → Option Value) (x : Str) (d : Dt) : Prop := ∃ (v : V) (u : Value), mg x = some u ∧ RelV v u ∧ ∀ F, Rep K F d v
theorem CstG.at_ {X : Cx} {x : Str} {d : Dt} (c : CstG X.K X.mg x d) (g : Gl X x) (nd : (x == ("__debug__" : Str)) = false) : GlobD X x d := ⟨g, c, nd⟩
theorem blk_of {X : Cx} {sc : Scope} {N : List Str} {scope : Scope} {own : List (Str × Nat)} (eN : X.N = N) (eS : X.env.scope = sc) (h : blkC N sc scope own = true) : BlkOk X.N X.env.scope scope own := by
  rw [eN, eS]
  exact blkOk_by h
end RT

set_option maxRecDepth 100000
set_option maxHeartbeats 4000000
namespace RT
open PySem PySem.Spec PyProof.Rows L2
variable [Gh : Ghost]

mutual
def vB (K : PySem.W.Frag) : Dt → Value → Bool
  | .non, u => decide (u = .none)
  | .bl b, u => decide (u = .bool b)
  | .int i, u => (match u with
    | .int j _ => decide (j = i)
    | _ => false)
  | .str s, u => (match u with
    | .str t _ => decide (t = s)
    | _ => false)
  | .tup ds, u => (match u with
    | .ref a => (match K.lookup a with
      | some ⟨.type c, _, .seq its _, _⟩ => decide (c = "tuple") && (decide (its.size ≤ sizeLine) && vBs K ds its.toList)
      | _ => false)
    | _ => false)
  | .lst _, _ => false
def vBs (K : PySem.W.Frag) : List Dt → List Value → Bool
  | [], [] => true
  | d :: ds, u :: us => vB K d u && vBs K ds us
  | _, _ => false
end
theorem band {a b : Bool} (h : (a && b) = true) : a = true ∧ b = true := Bool.and_eq_true_iff.mp h
mutual
theorem vB_ok {K : PySem.W.Frag} : ∀ {d : Dt} {u : Value}, vB K d u = true → ∃ v, RelV v u ∧ ∀ F, Rep K F d v
  | .non, u, h => ⟨.non, of_decide_eq_true (p := u = .none) h, fun _ => rfl⟩
  | .bl b, u, h => ⟨.bl b, of_decide_eq_true (p := u = .bool b) h, fun _ => rfl⟩
  | .int i, u, h => by
    cases u with
    | int j t =>
      have e : j = i := of_decide_eq_true h
      subst e
      exact ⟨.int j, ⟨t, rfl⟩, fun _ => rfl⟩
    | _ => cases h
  | .str s, u, h => by
    cases u with
    | str y t =>
      have e : y = s := of_decide_eq_true h
      subst e
      exact ⟨.str y, ⟨t, rfl⟩, fun _ => rfl⟩
    | _ => cases h
  | .tup ds, u, h => by
    cases u with
    | ref a =>
      have h' : (match K.lookup a with
        | some ⟨.type c, _, .seq its _, _⟩ => decide (c = "tuple") && (decide (its.size ≤ sizeLine) && vBs K ds its.toList)
        | _ => false) = true := h
      cases q : K.lookup a with
      | none =>
        rw [q] at h'
        cases h'
      | some o =>
        obtain ⟨oc, od, dt, osl⟩ := o
        rw [q] at h'
        cases oc with
        | type c =>
          cases dt with
          | seq its n =>
            obtain ⟨h1, h2⟩ := band (show (decide (c = "tuple") && (decide (its.size ≤ sizeLine) && vBs K ds its.toList)) = true from h')
            obtain ⟨h3, h4⟩ := band h2
            obtain ⟨vs, r, p⟩ := vBs_ok h4
            exact ⟨.ref a, rfl, fun F => ⟨a, vs, rfl, .inr ⟨_, its, n, q, congrArg Value.type (of_decide_eq_true h1), rfl, of_decide_eq_true h3, r⟩, p F⟩⟩
          | _ => cases h'
        | _ => cases dt <;> cases h'
    | _ => cases h
theorem vBs_ok {K : PySem.W.Frag} : ∀ {ds : List Dt} {us : List Value}, vBs K ds us = true → ∃ vs, Vals vs us ∧ ∀ F, Reps K F ds vs
  | [], [], _ => ⟨[], .nil, fun _ => rfl⟩
  | [], _ :: _, h => by cases h
  | _ :: _, [], h => by cases h
  | d :: ds, u :: us, h => by
    obtain ⟨h1, h2⟩ := band (show (vB K d u && vBs K ds us) = true from h)
    obtain ⟨v, r, p⟩ := vB_ok h1
    obtain ⟨vs, r2, p2⟩ := vBs_ok h2
    exact ⟨v :: vs, .cons r r2, fun F => ⟨v, vs, rfl, p F, p2 F⟩⟩
end
def cstB (K : PySem.W.Frag) (x : Str) (d : Dt) : Bool := match PySem.W.nsIn K mainGlobals x with
  | some (some u) => vB K d u
  | _ => false
theorem cst_of {K : PySem.W.Frag} {h : Heap} {mg : Str → Option Value} {x : Str} {d : Dt} (X : K.In h) (G : h.Ns mainGlobals mg) (c : cstB K x d = true) : CstG K mg x d := by
  unfold cstB at c
  cases e : PySem.W.nsIn K mainGlobals x with
  | none =>
    rw [e] at c
    cases c
  | some o =>
    rw [e] at c
    cases o with
    | none => cases c
    | some u =>
      obtain ⟨v, r, p⟩ := vB_ok (show vB K d u = true from c)
      exact ⟨v, u, PySem.W.mg_of X G e, r, p⟩

theorem lookup_relabel_free {env : Env} : ∀ {names : List (Str × NameKind)} {x : Str}, names.lookup x = some .free →
    (names.map fun (n, k) => if (k == NameKind.free && env.scope.kind == .function && env.kindOf n == some .cell) then (n, NameKind.cell) else (n, k)).lookup x = some .cell ∨
    (names.map fun (n, k) => if (k == NameKind.free && env.scope.kind == .function && env.kindOf n == some .cell) then (n, NameKind.cell) else (n, k)).lookup x = some .free
  | [], _, h => by cases h
  | (n, k) :: r, x, h => by
    rw [List.map_cons]
    by_cases hc : (k == NameKind.free && env.scope.kind == .function && env.kindOf n == some .cell) = true
    · simp only [if_pos hc]
      cases hx : x == n with
      | true =>
        simp [List.lookup_cons, hx]
      | false =>
        simp only [List.lookup_cons, hx] at h ⊢
        exact lookup_relabel_free h
    · simp only [if_neg hc]
      cases hx : x == n with
      | true =>
        simp only [List.lookup_cons, hx] at h ⊢
        exact .inr h
      | false =>
        simp only [List.lookup_cons, hx] at h ⊢
        exact lookup_relabel_free h
theorem vis_free {scope : Scope} {cl : List (Str × Addr)} {C : Addr} {env : Env} {x : Str} (h : scope.names.lookup x = some .free) : Vis (compEnvC scope cl C env).scope x := (lookup_relabel_free h).elim (fun h => .inr (.inl h)) fun h => .inr (.inr h)
end RT

set_option maxRecDepth 100000
set_option maxHeartbeats 4000000
namespace RT
open PySem PySem.Spec PyProof.Rows L2
variable [Gh : Ghost]

def reprD (x : Dt) : Str := (toPy x).shown
def shows (x : Dt) : Prop := (toPy x).showable = true ∧ (toPy x).depth ≤ 60 ∧ (reprD x).length ≤ sizeLine
def bRepr : DRB := fun xs P => match xs with
  | [x] => shows x ∧ P (.str (reprD x))
  | _ => False
theorem noDictD : ∀ x : Dt, (toPy x).hasDict = false := by
  have go : ∀ n : Nat, ∀ x : Dt, sizeOf x ≤ n → (toPy x).hasDict = false := by
    intro n
    induction n with
    | zero =>
      intro x h
      cases x <;> simp at h
    | succ n ih =>
      intro x h
      have all : ∀ ds : List Dt, sizeOf ds ≤ n → PyData.hasDictAll (toPys ds) = false := by
        intro ds
        induction ds with
        | nil =>
          intro _
          simp [toPys, PyData.hasDictAll]
        | cons d ds ih2 =>
          intro hd
          simp at hd
          simp only [toPys, PyData.hasDictAll, ih d (by omega), ih2 (by omega), Bool.or_self]
      cases x with
      | tup ds =>
        simp at h
        simp only [toPy, PyData.hasDict]
        exact all ds (by omega)
      | lst ds =>
        simp at h
        simp only [toPy, PyData.hasDict]
        exact all ds (by omega)
      | _ => simp [toPy, PyData.hasDict]
  intro x
  exact go _ x (Nat.le_refl _)
section
variable {X : Cx}
theorem call_reprD {k : Nat} (hr : GRoom k X.A) : CallR X (.builtin "repr") (fun xs H Q => ∃ v d, xs = [v] ∧ Dp X.K H v d ∧ d.showable = true ∧ d.depth ≤ 60 ∧ d.shown.length ≤ sizeLine ∧ d.hasDict = false ∧ Q (.str d.shown) H) := by
  intro pins s σ H xs us Q I r h
  obtain ⟨v, d, rfl, hd, h1, h2, h3, h4, q⟩ := h
  have hlen := r.length
  cases us with
  | nil => cases hlen
  | cons u us =>
    cases us with
    | cons a b => cases hlen
    | nil =>
      obtain ⟨u', e, r'⟩ := r.get (i := 0) (x := v) rfl
      cases e
      obtain ⟨as, rd⟩ := Dp.reads I d v u hd r'
      have hu := hr.hu
      have rd0 := rd
      cases rd with
      | none => exact PySem.P.repr_of_none ⟨.str _, H, I.tok _, ⟨_, rfl⟩, q⟩
      | bool => exact PySem.P.repr_of_bool ⟨.str _, H, I.tok _, ⟨_, rfl⟩, q⟩
      | int => exact PySem.P.repr_of_int (by simpa [PyData.showable] using h1) ⟨.str _, H, I.tok _, ⟨_, rfl⟩, q⟩
      | str => exact PySem.P.repr_of_str ⟨.str _, H, I.tok _, ⟨_, rfl⟩, q⟩ h3
      | _ => exact _root_.PySem.repr_of_reads' rd0 h1 (PyData.noDict_hsm h4) hr.gd (by omega) (fun b o e => e) (fun h' u tk hk => ⟨.str _, H, I.kept hk, ⟨_, rfl⟩, q⟩) h3
theorem b_repr {k : Nat} (hr : GRoom k X.A) : BiD X (.builtin "repr") bRepr := ⟨_, call_reprD hr, fun W F A m σ H xs us P Q G rs q c => by
  unfold bRepr at q
  split at q
  · rename_i x
    obtain ⟨u, rfl, ru⟩ := rb1 rs
    exact ⟨u, toPy x, rfl, dp_of (rep_up G.ext ru), q.1.1, q.1.2.1, q.1.2.2, noDictD x, c F H _ _ (Same.refl _) G rep_str q.2⟩
  · exact q.elim⟩
theorem boot_repr : bootBuiltins "repr" = some (.builtin "repr") := by kernel_rfl
end
end RT

set_option maxRecDepth 100000
set_option maxHeartbeats 4000000
namespace RT
open PySem PySem.Spec PyProof.Rows L2
variable [Gh : Ghost]

section
variable {X : Cx}
def mPop : MOp := fun xs ys P => match ys with
  | [] => onO xs.getLast? fun y => P xs.dropLast y
  | _ => False
theorem Reps.dropLast {K : PySem.W.Frag} {F : Hp} {xs : List Dt} {vs : List V} (r : Reps K F xs vs) : Reps K F xs.dropLast vs.dropLast := by
  rw [List.dropLast_eq_take, List.dropLast_eq_take, ← r.length]
  exact r.take _
end
end RT

set_option maxRecDepth 100000
set_option maxHeartbeats 4000000
namespace RT
open PySem PySem.Spec PyProof.Rows L2
variable [Gh : Ghost]

section
variable {X : Cx}
def rEqT : DR2 := fun x y P => match x, y with
  | .str a, .str b => P (.bl (decide (a = b)))
  | _, _ => False
theorem o_eqT : OpD X (compareOp .Eq) rEqT := ⟨_, L2.op_eq, fun W F A m σ H x y u v P Q G rx ry q c => by
  unfold rEqT at q
  split at q
  · rename_i a b
    rw [repB_str rx, repB_str ry]
    have e : decide (V.str a = V.str b) = decide (a = b) := decide_eq_decide.mpr ⟨fun h => by injection h, fun h => by rw [h]⟩
    refine ⟨rfl, ?_⟩
    rw [e]
    exact c F H _ _ (Same.refl _) G rep_bl q
  · exact q.elim⟩
end
end RT

set_option maxRecDepth 100000
set_option maxHeartbeats 4000000
namespace RT
open PySem PySem.Spec PyProof.Rows L2
variable [Gh : Ghost]

section
variable {X : Cx} {pos p gpos : Pos} {elt tg iter : Expr} {scope : Scope} {own' : List (Str × Nat)} {di : DI} {g : Tgt} {te : DE} {k : Nat}
structure GScope (scope : Scope) : Prop where
  co : scope.isCoroutine = false
  cell : ∀ y ∈ scope.names, y.2 ≠ .cell
  dot : scope.names.lookup (".0" : Str) = some NameKind.local
end

end RT

set_option maxRecDepth 100000
set_option maxHeartbeats 4000000
namespace RT
open PySem PySem.Spec PyProof.Rows L2
variable [Gh : Ghost]

section
variable {X : Cx} {ts : DA} {e e2 : Expr} {p pos tpos : Pos} {elts : List Expr} {kk : Nat}
end
end RT

set_option maxRecDepth 100000
set_option maxHeartbeats 4000000
namespace RT
open PySem PySem.Spec PyProof.Rows L2
variable [Gh : Ghost]
section
variable {X : Cx} {pos : Pos}
end
end RT

set_option maxRecDepth 100000
set_option maxHeartbeats 4000000
namespace RT
open PySem PySem.Spec PyProof.Rows L2
variable [Gh : Ghost]
section
variable {X : Cx} {o e : Expr} {es : List Expr} {to : DE} {ts : DA} {pos : Pos}

end
end RT

set_option maxRecDepth 100000
set_option maxHeartbeats 4000000
namespace RT
open PySem PySem.Spec PyProof.Rows L2
variable [Gh : Ghost]
section
variable {X : Cx} {pos : Pos} {e t1 t2 : Expr}
end
end RT

set_option maxRecDepth 100000
set_option maxHeartbeats 4000000
namespace RT
open PySem PySem.Spec PyProof.Rows L2
variable [Gh : Ghost]
section
variable {X : Cx} {pos : Pos} {e tg : Expr} {te : DE}
def dAsgL (t : DE) (is : List Nat) : DS := fun E m => t m fun v m1 => match v with
  | .d (.lst xs) => xs.length = is.length ∧ E.nx ⟨setsD is xs m1.sl, m1.st⟩
  | _ => False
theorem lst_elim {v : Vl} {P : List Dt → Prop} (h : match v with
  | .d (.lst xs) => P xs
  | _ => False) : ∃ xs, v = .d (.lst xs) ∧ P xs := by
  split at h
  · exact ⟨_, rfl, h⟩
  · exact h.elim
theorem js_asgL {is : List Nat} (he : JE X e te) (hg : PG X tg (gLst X.K is.length (gNames is))) (hs : swapsWithSole [tg] e pos.line X.env = pure false := by rfl) (hw : swappedStores [tg] e X.env = pure none := by rfl)
    (h1 : (assignEach [tg] X.env).map (·.2) = [assign tg X.env] := by rfl) : JS X (.Assign [tg] e pos) (dAsgL te is) := by
  refine (ps_asg he hg hs hw h1).imp fun D σ H hh => ?_
  obtain ⟨W, F, A, m, E, G, h, c⟩ := hh
  refine ⟨W, F, A, m, _, G, h, fun F1 A1 v m1 H1 s1 p1 G1 q1 u r1 => ?_⟩
  obtain ⟨xs, rfl, hl, q⟩ := lst_elim q1
  have r' : Rep X.K F1 (.lst xs) u := r1
  simp only [Rep] at r'
  obtain ⟨a, vs, rfl, hr, rs⟩ := r'
  have hlv : vs.length = is.length := by rw [← rs.length]; exact hl
  exact ⟨a, vs, rfl, .inl (rd_mono G1.ext hr), hlv, gNames_ok hlv (c.nx F1 A1 _ _ H1 s1 p1 (G1.sets rs) q)⟩
end
end RT

set_option maxRecDepth 100000
set_option maxHeartbeats 4000000

namespace RT
open PySem PySem.Spec PyProof.Rows L2
variable [Gh : Ghost]
section
variable {prog : Program} {w : World} {A : Around} {E : Value → Shared → Prop} {s : Shared}
end
section
variable {X : Cx}
end
end RT

set_option maxRecDepth 100000
set_option maxHeartbeats 4000000

namespace RT
open PySem PySem.Spec PyProof.Rows L2

def bmVE : List Value := [.type "ValueError", .type "Exception", .type "BaseException", .type "object"]
def excB (K : PySem.W.Frag) (x : Str) : Bool := match PySem.W.nsIn K mainGlobals x with
  | some (some (.ref C)) => PySem.W.excIn K C bmVE "ValueError.__new__" && (PySem.W.keepIn K (.ref C) && ((PySem.W.subIn K (.ref C) (.type "BaseException") == some true) && ((PySem.W.typeIn K (.ref C) == some (.type "type")) &&
      ((PySem.W.findIn K (.ref C) "__getattribute__" == some (some (.builtin "BaseException.__getattribute__"))) && ((PySem.W.findIn K (.ref C) "__getattr__" == some none) && (PySem.W.hasDictIn K C && ((PySem.W.findIn K (.ref C) "__class__" == some (some (.builtin "object.__class__"))) &&
      ((PySem.W.specialIn K (.builtin "object.__class__") "__get__" == some (some (.builtin "getset_descriptor.__get__"))) && ((PySem.W.takesIn K (.builtin "object.__class__") == some true) && (PySem.W.mroIn K C (.type "object") == some true))))))))))
  | _ => false
structure ExcF (K : PySem.W.Frag) (x : Str) (C : Addr) : Prop where
  at_ : PySem.W.nsIn K mainGlobals x = some (some (.ref C))
  ex : PySem.W.excIn K C bmVE "ValueError.__new__" = true
  kp : PySem.W.keepIn K (.ref C) = true
  sub : PySem.W.subIn K (.ref C) (.type "BaseException") = some true
  ty : PySem.W.typeIn K (.ref C) = some (.type "type")
  cc : ExcC K C
theorem excF_of {K : PySem.W.Frag} {x : Str} (h : excB K x = true) : ∃ C, ExcF K x C := by
  unfold excB at h
  split at h
  · rename_i C e
    simp only [Bool.and_eq_true, beq_iff_eq] at h
    obtain ⟨h1, h2, h3, h4, h5, h6, h7, h8, h9, h10, h11⟩ := h
    exact ⟨C, e, h1, h2, h3, h4, ⟨h5, h6, h3, h7, h8, h9, h10, h11⟩⟩
  · cases h
def exmB (K : PySem.W.Frag) (x y : Str) : Bool := match PySem.W.nsIn K mainGlobals x, PySem.W.nsIn K mainGlobals y with
  | some (some cx), some (some cy) => PySem.W.exmOne K cx cy == some true
  | _, _ => false
theorem exm_of {K : PySem.W.Frag} {x y : Str} {cx cy : Value} (h : exmB K x y = true) (hx : PySem.W.nsIn K mainGlobals x = some (some cx)) (hy : PySem.W.nsIn K mainGlobals y = some (some cy)) : PySem.W.exmOne K cx cy = some true := by
  unfold exmB at h
  rw [hx, hy] at h
  exact beq_iff_eq.mp h

def ExcG (K : PySem.W.Frag) (mg : Str → Option Value) (x : Str) : Prop := ∃ D, ExcF K x D ∧ mg x = some (.ref D)
def ExmG (K : PySem.W.Frag) (mg : Str → Option Value) (x y : Str) : Prop := ∃ cy, mg y = some cy ∧ ∀ v, PySem.W.nsIn K mainGlobals x = some (some v) → PySem.W.exmOne K v cy = some true
theorem excG_of {K : PySem.W.Frag} {h : Heap} {mg : Str → Option Value} {x : Str} (X : K.In h) (G : h.Ns mainGlobals mg) (c : excB K x = true) : ExcG K mg x := by
  obtain ⟨D, f⟩ := excF_of c
  exact ⟨D, f, PySem.W.mg_of X G f.at_⟩
theorem exmG_of {K : PySem.W.Frag} {h : Heap} {mg : Str → Option Value} {x y : Str} (X : K.In h) (G : h.Ns mainGlobals mg) (c : exmB K x y = true) : ExmG K mg x y := by
  have c' := c
  unfold exmB at c'
  split at c'
  · rename_i cx cy e1 e2
    exact ⟨cy, PySem.W.mg_of X G e2, fun v hv => exm_of c hv e2⟩
  · cases c'

abbrev DX := M → (Str → M → Prop) → Prop
abbrev FSpecX := List Vl → List Cell → (Str → List Cell → Prop) → Prop
def liftX (K : PySem.W.Frag) (t : DX) (Wx : WX) : TS := fun _ σ H => ∃ W F A m QX, Good K W F A m σ H ∧ t m QX ∧
  ∀ F' A' m' σ' H' x v, Same F F' → A <+: A' → Good K W F' A' m' σ' H' → PySem.W.nsIn K mainGlobals x = some (some v) → QX x m' → Wx v none σ' H'
def liftSpX (K : PySem.W.Frag) (sp : FSpecX) : Sp := fun vs H _ E => ∃ W F A st args QX, Good K W F A ⟨[], st⟩ [] H ∧ RepVs K F A args vs ∧ sp args st QX ∧
  ∀ F' A' st' H' x v, Same F F' → A <+: A' → Good K W F' A' ⟨[], st'⟩ [] H' → PySem.W.nsIn K mainGlobals x = some (some v) → QX x st' → E v none H'
abbrev JXs (X : Cx) (Wx : WX) (e : List Stmt) (t : DX) : Prop := PSs X e (liftX X.K t Wx)
section
variable {X : Cx} {Wx : WX} {st : Stmt} {rest : List Stmt} {pos : Pos}
theorem pmk_own0 {C : Addr} {bmB : List Value} {B newId initId : String} {x : Str} {p pos : Pos} (F : ExcBaseFacts B newId initId bmB) (q : PySem.W.excIn X.K C bmB newId = true) (gC : X.mg x = some (.ref C)) (kC : PySem.W.keepIn X.K (.ref C) = true) (r : Raises X (.ref C)) (hg : Gl X x)
    (hdb : (x == ("__debug__" : Str)) = false := by decide) : PMk X (.Call (.Name x p) [] [] pos) (fun _ H Q => Q (.ref C) none H) := by
  intro pins s σ H Q I h
  refine wpAny_Call_Name_kw (ld_glob I hg gC ?_ hdb)
  refine PySem.W.callWith_K0 I.kIn kC ?_
  show wpAny _ _ (call (.ref C) []) _ _ _
  obtain ⟨bm, N, nm, qn, bs, hdct, sn, sub, ab, col, dd, k0, k1, k2, k3, k5, mN, hC, hN, hni, T⟩ := exc_obj I.kIn q
  refine wpAny_call_exc_subT F T hC hN hni (fun h' e hm => ?_) (by show 0 ≤ sizeLine; omega)
  exact mk_of I hm r h (I.hok.gone hm.new)

def FnX (P : Program) (w : World) (K : PySem.W.Frag) (mg : Str → Option Value) (base : Heap) (x : Str) (k : Nat) (sp : FSpecX) : Prop :=
  ∃ (f : Addr) (fd : FuncData) (ps : List Str), Fnn P w K mg base (L2.CX P w) k f fd ps (liftSpX K sp) ∧ mg x = some (.ref f) ∧ PySem.W.keepIn K (.ref f) = true ∧ Binds K fd ps []
theorem run_fnX {CX : CXT} {k : Nat} {f : Addr} {fd : FuncData} {ps : List Str} {sp : Sp} {E : XK} {pins : List (Addr × Obj)} {σ : L2.St} {H : Hp} {s : Shared} {Q : VK} {us : List Value} {vs : List V} (F : Fnn X.prog X.w X.K X.mg X.base CX k f fd ps sp) (hr : GRoom k X.A) (hb : Binds X.K fd ps []) (hx : PassesAt CX X σ E)
    (I : Inv X pins σ H s) (r : Vals vs us) (h : sp vs H Q E) : wpAny (model X.prog X.w) X.A (call (.ref f) us) (EP X pins σ Q) X.xe s := by
  have hl : us.length = ps.length := by rw [← r.length]; exact F.len _ _ _ _ h
  have b := hb s us I.kIn (by rw [List.append_nil]; exact hl)
  rw [List.append_nil] at b
  refine wpAny_call (codeAny_mono (F.run X.A X.stack s H ⟨us, []⟩ us vs Q E hr I.env0 b r h) fun r s' hq => ?_)
  cases r with
  | error e => exact hx pins H s e s' I hq
  | ok fl =>
    cases fl with
    | ret u => exact I.after hq
    | next => exact False.elim hq
    | brk => exact False.elim hq
    | cont => exact False.elim hq
end

def spXOf (n N : Nat) (b : DX) : FSpecX := fun args st QX => args.length = n ∧ b (startM N args st) fun x m => QX x (m.st.take st.length)
theorem mkX {P : Program} {w : World} {K : PySem.W.Frag} {mg : Str → Option Value} {base : Heap} {x y qual : Str} {params : Arguments} {body : List Stmt} {scope : Scope} {kws : List (Str × V)} {f : Addr} {fd : FuncData} {N ps : List Str} {k n m : Nat} {b : DX} (hns : BaseOk K mg base) (htr : P.given.tree = none)
    (F : FunD K y qual params body scope [] kws f fd) (hm : mg x = some (.ref f)) (S : FnScope N ps scope) (hn : ps.length = n) (hN : N.length = m)
    (hb : ∀ (kV doc pm : Value) (an : Option Addr) (cdv ct : Value) (us : List Value), us.length = ps.length → bindArgs (PySem.W.fnOf y qual params body scope .none kV doc pm an cdv ct) ⟨us, []⟩ = pure (ps.zip us))
    (hd : ∀ (X : Cx) (Wx : WX) (cdv : Value) (A : Around) (outer : List Env) (s : Shared) (H : Hp) (E : XK), X = cxOf (L2.CX P w) P w K mg base N qual scope f cdv A outer s H E → Takes X Wx → Amb k X → JXs X Wx body b) :
    FnX P w K mg base x (k + 1) (spXOf n m b) := by
  subst hn hN
  refine ⟨f, fd, ps, ?_, hm, F.kp, F.bindsN hb⟩
  obtain ⟨oc, od, dV, kV, doc, pm, an, cdv, ct, osl, rfl, lk, hcd, _, _⟩ := F.ex
  refine fnn_of hns htr lk hcd S (fun vs H Q E h => ?_) fun A outer s H vs Q E amb h => ?_
  · obtain ⟨W, F1, A1, st1, args, QX, G, r, q, c⟩ := h
    rw [← r.length]
    exact q.1
  · obtain ⟨W, F1, A1, st1, args, QX, G, r, q, c⟩ := h
    refine ⟨_, hd (cxOf (L2.CX P w) P w K mg base N qual scope f cdv A outer s H E) (fun cls d _ H => E cls d H) cdv A outer s H E rfl (takes_of rfl rfl rfl rfl) amb, ?_⟩
    have hl := r.length
    refine ⟨W, F1, A1, startM N.length args st1, _, ⟨G.ext, G.hid, G.dj, ?_, ?_, G.len, G.st, G.nd, G.tb, G.gh⟩, q.2, ?_⟩
    · unfold startM L2.start
      simp [hl]
    · intro i v e
      unfold startM at e
      unfold L2.start
      rw [← hl]
      exact repVs_slots r _ i v e
    · intro F' A' m' σ' H' x v s' p' G' e q'
      have eA : A'.take st1.length = A1 := by rw [← G.len]; exact pre_take p'
      have G1 := G'.take st1.length
      rw [eA] at G1
      exact c F' A1 _ H' x v s' (pre_refl _) G1 e q'

section
variable {X : Cx} {i : Nat} {a : Addr} {rest : List Stmt} {pos : Pos}
abbrev CE (X : Cx) (i : Nat) (a : Addr) (e : Expr) (v : V) : Prop := PE X e fun σ H Q => σ[i]? = some (some (.ref a)) ∧ Q v H
end

end RT

set_option maxRecDepth 100000
set_option maxHeartbeats 4000000

namespace RT
open PySem PySem.Spec PyProof.Rows L2
variable [Gh : Ghost]
section
variable {X : Cx} {a b : Expr} {ta tb : DE} {pos : Pos}
end
end RT

set_option maxRecDepth 100000
set_option maxHeartbeats 4000000

namespace RT
open PySem PySem.Spec PyProof.Rows L2
variable [Gh : Ghost]
def hashIs (ks : List Int) : Int := reduceHash (Builtin.Tuple.tupleHashOf (ks.map hashInt))
def intsB : List Int → List Value → Bool
  | [], [] => true
  | i :: r, .int j _ :: us => decide (i = j) && intsB r us
  | _, _ => false
def keyB (K : PySem.W.Frag) (b : Addr) (ks : List Int) : Bool := match K.lookup b with
  | some ⟨.type c, _, .seq its _, _⟩ => decide (c = "tuple") && intsB ks its.toList
  | _ => false
def entB (K : PySem.W.Frag) : List (List Int × Int) → List DictEntry → Bool
  | [], [] => true
  | (ks, v) :: r, ⟨h, .ref b, .int i _⟩ :: es => (decide (h = hashIs ks) && (keyB K b ks && decide (i = v))) && entB K r es
  | _, _ => false
structure DctF (K : PySem.W.Frag) (a : Addr) (kvs : List (List Int × Int)) : Prop where
  sm : (a == sysModules) = false
  nd : (kvs.map (·.1)).Nodup
  es : ∃ es n, K.lookup a = some ⟨.type "dict", none, .dict es n, #[]⟩ ∧ entB K kvs es.toList = true

def keysO (o : Obj) : List Addr := match o.data with
  | .dict es _ => es.toList.flatMap fun e => He.refV e.key
  | _ => []
def asK (g : Addr → Option Obj) (as : List Addr) : List Addr := (as ++ as.flatMap fun a => match g a with
  | some o => keysO o
  | none => []).eraseDups

section
variable {X : Cx}
variable {x : Str} {p pos : Pos} {e : Expr} {te : DE} {kvs : List (List Int × Int)}
end
end RT

set_option maxRecDepth 100000
set_option maxHeartbeats 4000000

namespace RT
open PySem PySem.Spec PyProof.Rows L2
variable [Gh : Ghost]
section
variable {X : Cx}
end
end RT

set_option maxRecDepth 100000
set_option maxHeartbeats 4000000

namespace RT
open PySem PySem.Spec PyProof.Rows L2
variable [Gh : Ghost]
def Refs (A : List Addr) (ks : List Nat) (rs : List V) : Prop := rs = ks.map (fun j => V.ref (A.getD j 0)) ∧ ∀ j ∈ ks, j < A.length
theorem Refs.mono {A A' : List Addr} {ks : List Nat} {rs : List V} (h : Refs A ks rs) (p : A <+: A') : Refs A' ks rs := by
  obtain ⟨t, rfl⟩ := p
  refine ⟨?_, fun j hj => by rw [List.length_append]; have := h.2 j hj; omega⟩
  rw [h.1]
  refine List.map_congr_left fun j hj => ?_
  have := h.2 j hj
  rw [List.getD_eq_getElem?_getD, List.getD_eq_getElem?_getD, List.getElem?_append_left this]
theorem Refs.get {A : List Addr} {ks : List Nat} {rs : List V} (h : Refs A ks rs) {i j : Nat} (e : ks[i]? = some j) : ∃ a, A[j]? = some a ∧ rs[i]? = some (.ref a) := by
  have hj := h.2 j (List.mem_of_getElem? e)
  refine ⟨A[j], List.getElem?_eq_getElem hj, ?_⟩
  rw [h.1, List.getElem?_map, e]
  show some (V.ref (A.getD j 0)) = _
  rw [List.getD_eq_getElem?_getD, List.getElem?_eq_getElem hj]
  rfl
structure GG (K : PySem.W.Frag) (W F : Hp) (A : List Addr) (m : M) (σ : L2.St) (H : Hp) (kg : Nat) (ks : List Nat) : Prop where
  ex : ∃ g0 rs, A[kg]? = some g0 ∧ W g0 = none ∧ Refs A ks rs ∧ Good K (upd W g0 (.lst rs)) F A m σ H
section
variable {K : PySem.W.Frag} {W F F' : Hp} {A A' : List Addr} {m m' : M} {σ σ' : L2.St} {H H' : Hp} {kg : Nat} {ks : List Nat}
theorem GG.of {g0 : Addr} {rs : List V} (ha : A[kg]? = some g0) (hw : W g0 = none) (hr : Refs A ks rs) (p : A <+: A') (G : Good K (upd W g0 (.lst rs)) F' A' m' σ' H') : GG K W F' A' m' σ' H' kg ks := by
  refine ⟨g0, rs, ?_, hw, hr.mono p, G⟩
  obtain ⟨t, rfl⟩ := p
  rw [List.getElem?_append_left (List.getElem?_eq_some_iff.mp ha).1]
  exact ha
abbrev DG := Nat → List Nat → M → (List Nat → M → Prop) → Prop
end
section
variable {X : Cx} {s : Stmt} {rest a b : List Stmt} {pos : Pos}
def gNil : DG := fun _ ks m Q => Q ks m
end

theorem GG.push {K : PySem.W.Frag} {W F : Hp} {A : List Addr} {m : M} {σ : L2.St} {H : Hp} {kg j : Nat} {ks : List Nat} {a g0 : Addr} {rs : List V} (hg : A[kg]? = some g0) (hw : W g0 = none) (hr : Refs A ks rs) (G : Good K (upd W g0 (.lst rs)) F A m σ H) (hj : A[j]? = some a) :
    GG K W F A m σ (upd H g0 (.lst (rs ++ [.ref a]))) kg (ks ++ [j]) := by
  have h2 : H g0 = some (.lst rs) := G.hid g0 _ upd_same
  have fg : F g0 = none := G.dj g0 _ upd_same
  refine ⟨g0, rs ++ [.ref a], hg, hw, ⟨?_, ?_⟩, ?_⟩
  · rw [List.map_append, ← hr.1]
    congr 1
    show [V.ref a] = [V.ref (A.getD j 0)]
    rw [List.getD_eq_getElem?_getD, hj]
    rfl
  · intro x hx
    rcases List.mem_append.mp hx with hx | hx
    · exact hr.2 x hx
    · rw [List.mem_singleton.mp hx]
      exact (List.getElem?_eq_some_iff.mp hj).1
  · refine ⟨fun b x q => ?_, fun b x q => ?_, fun b x q => ?_, G.slen, G.sl, G.len, fun k xs e => ?_, G.nd, fun q hq => ?_, Ghost.mono G.gh SameO.ull (Same.refl _) (pre_refl _)⟩
    · have nb : b ≠ g0 := fun z => by rw [z, fg] at q; cases q
      rw [upd_ne nb]
      exact G.ext _ _ q
    · by_cases nb : b = g0
      · subst nb
        rw [upd_same] at q ⊢
        exact q
      · rw [upd_ne nb] at q ⊢
        exact G.hid b x (by rw [upd_ne nb]; exact q)
    · by_cases nb : b = g0
      · rw [nb]
        exact fg
      · rw [upd_ne nb] at q
        exact G.dj b x (by rw [upd_ne nb]; exact q)
    · obtain ⟨c, vs, q1, q2, q3, q4, q5⟩ := G.st k xs e
      have nb : c ≠ g0 := fun z => by rw [z, upd_same] at q5; cases q5
      rw [upd_ne nb] at q5
      exact ⟨c, vs, q1, by rw [upd_ne nb]; exact q2, q3, q4, by rw [upd_ne nb]; exact q5⟩
    · obtain ⟨t1, t2, t3⟩ := G.tb q hq
      have nb : q.2 ≠ g0 := fun z => by rw [z, upd_same] at t3; cases t3
      rw [upd_ne nb] at t3
      exact ⟨tab_lst t1 h2, t2, by rw [upd_ne nb]; exact t3⟩
section
variable {X : Cx} {pos : Pos}
end

def frzs : List Nat → List (List Dt) → M → M
  | k :: ks, xs :: rows, m => frzs ks rows (frz k xs m)
  | _, _, m => m
def fz1 : List Nat → List (List Dt) → M → Prop
  | [], [], _ => True
  | k :: ks, xs :: rows, m => m.st[k]? = some (.lst xs) ∧ fz1 ks rows (frz k xs m)
  | _, _, _ => False
theorem Good.frzs {K : PySem.W.Frag} {W : Hp} {A : List Addr} {σ : L2.St} {H : Hp} : ∀ {ks : List Nat} {rows : List (List Dt)} {m : M} {F : Hp}, Good K W F A m σ H → fz1 ks rows m → (∀ j ∈ ks, j < A.length) → ∃ F', Same F F' ∧ Good K W F' A (RT.frzs ks rows m) σ H ∧ Reps K F' (rows.map .lst) (ks.map (fun j => V.ref (A.getD j 0)))
  | [], [], m, F, G, _, _ => ⟨F, Same.refl _, G, by simp [Reps]⟩
  | k :: ks, xs :: rows, m, F, G, ⟨e, h⟩, hl => by
    obtain ⟨F1, a, s1, ha, r1, G1⟩ := G.freeze e
    obtain ⟨F2, s2, G2, r2⟩ := Good.frzs G1 h fun j hj => hl j (List.mem_cons_of_mem _ hj)
    refine ⟨F2, s1.trans s2, G2, ?_⟩
    have ea : A.getD k 0 = a := by
      rw [List.getD_eq_getElem?_getD, ha]
      rfl
    simp only [List.map_cons, Reps]
    refine ⟨.ref a, ks.map (fun j => V.ref (A.getD j 0)), by rw [ea], Rep.mono s2 r1, r2⟩
  | [], _ :: _, _, _, _, h, _ => h.elim
  | _ :: _, [], _, _, _, h, _ => h.elim
section
variable {X : Cx} {s : Stmt} {rest : List Stmt}
end

theorem RepVs.append {K : PySem.W.Frag} {F : Hp} {A : List Addr} : ∀ {x y : List Vl} {u v : List V}, RepVs K F A x u → RepVs K F A y v → RepVs K F A (x ++ y) (u ++ v)
  | [], y, u, v, h, h' => by
    simp only [RepVs] at h
    subst h
    exact h'
  | a :: x, y, u, v, h, h' => by
    obtain ⟨b, r, rfl, h1, h2⟩ := h
    exact ⟨b, r ++ v, rfl, h1, RepVs.append h2 h'⟩
section
variable {X : Cx}
end
end RT

set_option maxRecDepth 100000
set_option maxHeartbeats 4000000

namespace RT
open PySem PySem.Spec PyProof.Rows L2 NdefX
structure EIni (P : Program) (K : PySem.W.Frag) (C fI cc : Addr) (F : NF) (arg f : Str) (e : Expr) : Prop where
  oex : OexC K C
  lk : ∃ oc od dV kV doc pm an ct osl, K.lookup fI = some ⟨oc, od, .func (PySem.W.fnX F.name F.qual F.params F.body F.scope F.cl dV kV doc pm an (.ref F.c) ct), osl⟩
  cd : PySem.W.codeIn K (.ref F.c) F.qual = true
  cl : F.cl = [(("__class__" : Str), cc)]
  cell : ∃ c d s, K.lookup cc = some ⟨c, d, .cell (some (.ref C)), s⟩
  clsC : ∃ cd, PySem.W.clsIn K C = some cd ∧ PySem.W.ks_superIn K C C "__init__" = some (some (.builtin "ValueError.__init__"))
  mro : PySem.W.mroIn K C (.ref C) = some true
  ve : PySem.W.subIn K (.ref C) (.type "ValueError") = some true
  opq : PySem.W.nsIn K cStatics "thirdparty.any" = some none
  noat : PySem.W.findIn K (.ref C) f = some none
  file : ∃ (c : Value) (d : Option Addr) (vs : Array Value) (s : Array (Option Value)) (fl : Str) (t : Tok), K.lookup F.c = some ⟨c, d, .fields vs, s⟩ ∧ vs[2]? = some (.str fl t) ∧ ((P.main.file : Str) == fl) = true
  hd : (F.params.posonlyargs ++ F.params.args).head?.map (·.arg) = some ("self" : Str)
  top : (P.main.scope.names.lookup ("super" : Str)).isSome = false
def spEI (K : PySem.W.Frag) (C : Addr) (f : Str) : Sp := fun vs H Q _ => ∃ (a : Addr) (i : Int), vs = [.ref a, .int i] ∧ i.natAbs.log2 < 1920 ∧ H a = some (exo a C none) ∧
  ∀ dx, H dx = none → dx ≠ a → Q .non (upd (upd H dx (exd dx [(f, .int i)])) a (exo a C (some dx)))
theorem mw_call {X : Cx} {pins : List (Addr × Obj)} {σ : L2.St} {H : Hp} {s : Shared} {a C u : Addr} {us : List Value} {Q : Value → Shared → Prop} (T : OexC X.K C) (I : Inv X ((u, PySem.W.kxs_mw "ValueError.__init__" a) :: pins) σ H s) (e : H a = some (exo a C none)) (hl : us.length ≤ sizeLine) (h : ∀ s', Inv X pins σ H s' → Q .none s') :
    wpAny (model X.prog X.w) X.A (call (.ref u) us) Q X.xe s := by
  obtain ⟨nm, q, N, bs, bm, sn, sub, ab, col, dd, k0, k1, k2, k3, k5, hC, hbm⟩ := T.cls
  obtain ⟨t1, ho⟩ := exo_at I.hok e
  have hC' := I.kIn _ _ hC
  obtain ⟨hu, _⟩ := I.pin (u, PySem.W.kxs_mw "ValueError.__init__" a) (List.mem_append_right _ List.mem_cons_self)
  have I0 : Inv X pins σ H s := I.pins_of fun p hp => I.pin p (List.mem_append_right _ (List.mem_cons_of_mem _ hp))
  obtain ⟨hh, g, d, tk, os⟩ := s
  refine wpAny_call (codeAny_of_tree ?_)
  show wpAny _ X.A.in1 (callAny (.ref u) ⟨us, []⟩) _ _ _
  simp only [callAny]
  refine wpAny_bind (wpAny_load hu ?_)
  simp only [PySem.W.kxs_mw, show (Value.type "method-wrapper" == Value.type "method" || Value.type "method-wrapper" == Value.type "builtin_function_or_method" || Value.type "method-wrapper" == Value.type "method-wrapper") = true by decide, if_true]
  refine PySem.W.KFB.if_so (by decide) ?_
  refine wpAny_bind (PySem.W.check_bound_init PySem.F.excBase_ValueError.toExcCallFacts hC' ho rfl ?_)
  refine wpAny_bind (wpAny_pure (wpAny_pure ?_))
  refine ⟨plainId_quiet PySem.F.excBase_ValueError.init.plain _, codeAny_builtin PySem.F.excBase_ValueError.initEntry ?_⟩
  refine PySem.W.exc_init_tree (cls := .ref C) (t0 := t1) (dv := none) (c2 := .none) (c3 := .none) (b4 := .bool false) ho hl (fun h' k hx _ => ?_)
  have J := I0.write (t' := tk) (x := a) (e := a) (o := exo a C none) (by rw [e]; exact True.intro) (.inl rfl) k ⟨_, hx⟩ (exo_ok hx)
  have eu : upd H a (exo a C none) = H := by
    funext b
    by_cases hb : b = a
    · rw [hb, upd_same, e]
    · rw [upd_ne hb]
  rw [eu] at J
  exact h _ J
theorem super_init {CX : CXT} {P : Program} {w : World} {K : PySem.W.Frag} {mg : Str → Option Value} {base : Heap} {N : List Str} {C fI cc : Addr} {F : NF} {arg f : Str} {e : Expr} (T : EIni P K C fI cc F arg f e) {A : Around} {outer : List Env} {s₀ : Shared} {H₀ : Hp} {E : XK}
    {p0 p1 apos cpos : Pos} {ta : TA} {pl : Sem Bool} {σ : L2.St} {H : Hp} {s : Shared} {a : Addr} {R : Value → Shared → Prop} (hfr : A.frames = some outer)
    (hsu : F.scope.names.lookup ("super" : Str) = some .globalImplicit) (hcl : F.scope.names.lookup ("__class__" : Str) = some .free) (hse : F.scope.names.lookup ("self" : Str) = some .local) (hk : F.scope.kind = .function) (hN : N[0]? = some ("self" : Str))
    (hgl : mg "super" = none) (I : Inv (ncx CX P w K mg base N F fI A outer s₀ H₀ E) [] σ H s) (h0 : σ[0]? = some (some (.ref a))) (ea : H a = some (exo a C none))
    (ha : PA (ncx CX P w K mg base N F fI A outer s₀ H₀ E) [e] ta) (hq : ta σ H fun vs H1 => H1 = H ∧ vs.length = 1 ∧ ∀ s', Inv (ncx CX P w K mg base N F fI A outer s₀ H₀ E) [] σ H s' → R .none s')
    (hst : starEach [e] (ncx CX P w K mg base N F fI A outer s₀ H₀ E).env = (false, eval e (ncx CX P w K mg base N F fI A outer s₀ H₀ E).env) :: starEach [] (ncx CX P w K mg base N F fI A outer s₀ H₀ E).env)
    (hev : eval (.Call (.Attribute (.Call (.Name "super" p0) [] [] p1) "__init__" apos) [e] [] cpos) (ncx CX P w K mg base N F fI A outer s₀ H₀ E).env = (do
      let ov ← attributeBase (.Call (.Name "super" p0) [] [] p1) "__init__" (ncx CX P w K mg base N F fI A outer s₀ H₀ E).env (eval (.Call (.Name "super" p0) [] [] p1) (ncx CX P w K mg base N F fI A outer s₀ H₀ E).env)
      standAt apos.atName
      let (f, first) ← holding [ov] (getMethod ov "__init__" pl)
      callWith cpos f first (backTo cpos (starEach [e] (ncx CX P w K mg base N F fI A outer s₀ H₀ E).env)) [])) :
    _root_.PySem.wpAt (model P w) (A.deeper (envF F fI s₀.heap.objs.size)) (.func F.body (envF F fI s₀.heap.objs.size)) (eval (.Call (.Attribute (.Call (.Name "super" p0) [] [] p1) "__init__" apos) [e] [] cpos) (envF F fI s₀.heap.objs.size))
      R (ncx CX P w K mg base N F fI A outer s₀ H₀ E).xe s := by
  have hev : eval (.Call (.Attribute (.Call (.Name "super" p0) [] [] p1) "__init__" apos) [e] [] cpos) (envF F fI s₀.heap.objs.size) = _ := hev
  refine ks_wpAt_MethodCall (pl := pl) ?_ hev
  have hst : starEach [e] (envF F fI s₀.heap.objs.size) = (false, eval e (envF F fI s₀.heap.objs.size)) :: starEach [] (envF F fI s₀.heap.objs.size) := hst
  obtain ⟨oc, od, dV, kV, doc, pm, an, ct, osl, lk⟩ := T.lk
  obtain ⟨c1, d1, vs, s1, fl, t1, lkc, hvs, hfile⟩ := T.file
  obtain ⟨c2, d2, s2, lkcell⟩ := T.cell
  obtain ⟨cd, hcd, hsup⟩ := T.clsC
  have KX : K.In s.heap := I.kIn
  obtain ⟨ar, har, ear⟩ : ∃ ar, (F.params.posonlyargs ++ F.params.args).head? = some ar ∧ ar.arg = ("self" : Str) := by
    have := T.hd
    cases h : (F.params.posonlyargs ++ F.params.args).head? with
    | none =>
      rw [h] at this
      cases this
    | some ar =>
      rw [h] at this
      exact ⟨ar, rfl, Option.some.inj this⟩
  refine ks_wpAt_super_base (env := envF F fI s₀.heap.objs.size) hsu hcl (by decide) rfl (KX _ _ lk) rfl har rfl (KX _ _ lkc) rfl hvs hfile T.top ?_
  have mod := I.ok.mod
  obtain ⟨mb, hmb, hbb⟩ := mod.blt
  have boot : bootBuiltins "super" = some (.type "super") := by decide +kernel
  refine PySem.W.ks_loadName_global hk hsu (PySem.Calls.loadGlobal_builtin (env := envF F fI s₀.heap.objs.size) (mod.glob.keeps I.bk) hgl (hmb.keeps I.bk) ((hbb _ (by decide)).trans boot) ⟨rfl, ?_⟩)
  refine wpAny_loadName_free (env := envF F fI s₀.heap.objs.size) hk hcl (c := cc) ?_ ⟨_, KX _ _ lkcell, rfl⟩ ?_
  · show F.cl.lookup _ = _
    rw [T.cl]
    rfl
  obtain ⟨m, hns, hlk⟩ := id I.loc
  obtain ⟨u, hu, lo⟩ := hlk 0 "self" (.ref a) hN h0 (.inl hse)
  have hu : u = .ref a := hu
  subst hu
  have lo : m "self" = some (.ref a) := by
    rcases lo with ⟨_, lo⟩ | ⟨lo, _⟩
    · exact lo
    · have lo : F.scope.names.lookup ("self" : Str) = some .cell ∨ F.scope.names.lookup ("self" : Str) = some .free := lo
      rw [hse] at lo
      rcases lo with lo | lo <;> cases lo
  rw [ear]
  refine wpAny_loadName_local (env := envF F fI s₀.heap.objs.size) hk hse hns lo ?_
  obtain ⟨oD, hD1, hD2⟩ : ∃ oD, s.heap.get? C = some oD ∧ oD.data = .cls cd := by
    unfold PySem.W.clsIn at hcd
    split at hcd
    · rename_i c d cd' sl ho
      cases hcd
      exact ⟨_, KX _ _ ho, rfl⟩
    · cases hcd
  obtain ⟨tt, ho⟩ := exo_at I.hok ea
  obtain ⟨hh, g, d, tk, os⟩ := s
  refine ks_wpAny_isType_cls hD1 hD2 ⟨rfl, ?_⟩
  refine ks_wpAny_call_super hD1 hD2 ho rfl (fun c z => by cases z) (PySem.W.looks_mroIn KX T.mro) (fun h1 hso k1 => ?_)
  have I1 : Inv (ncx CX P w K mg base N F fI A outer s₀ H₀ E) [] σ H ⟨h1, g, d, tk, os⟩ := I.kept (t' := tk) k1
  have K1 : K.In h1 := I1.kIn
  have II : PySem.W.InstAt h1 a { cls := .ref C, dict := none, data := .fields #[.ref tt, .none, .none, .none, .bool false, .none] } C none := ⟨k1 _ _ ho, rfl, rfl, trivial⟩
  have hsup' : PySem.W.alongIn K "__init__" ((cd.mro.dropWhile (· != .ref C)).drop 1) = some (some (.builtin "ValueError.__init__")) := by
    unfold PySem.W.ks_superIn at hsup
    rw [hcd] at hsup
    exact hsup
  refine PySem.W.kxs_getMethod PySem.W.kxs_ValueError hso (PySem.W.looks_opaque K1 T.opq) (l₀ := cd.mro) (fun A Q E s k q => wpAny_bind ((PySem.W.looks_clsIn K1 hcd) A _ E s k (wpAny_pure q))) rfl K1 hsup' (II.type.andThen (PySem.W.looks_subIn K1 T.ve)) (PySem.W.ks_ne K1 II hcd) (by decide) ?_
  have k2 : ∀ b o, h1.get? b = some o → (h1.push (PySem.W.kxs_mw "ValueError.__init__" a)).get? b = some o := fun b o z => Heap.get?_push_of_some _ z
  have I2 : Inv (ncx CX P w K mg base N F fI A outer s₀ H₀ E) [] σ H ⟨h1.push (PySem.W.kxs_mw "ValueError.__init__" a), g, d, tk + 1, os⟩ := I1.kept (t' := tk + 1) k2
  have I3 : Inv (ncx CX P w K mg base N F fI A outer s₀ H₀ E) [(h1.objs.size, PySem.W.kxs_mw "ValueError.__init__" a)] σ H ⟨h1.push (PySem.W.kxs_mw "ValueError.__init__" a), g, d, tk + 1, os⟩ := I2.pins_of fun p hp => by
    rw [List.mem_singleton.mp hp]
    refine ⟨Heap.get?_push_at rfl rfl, I1.hok.fresh (Nat.le_refl _), Nat.ne_of_gt I1.lt, I1.nofs (Nat.le_refl _), fun v z => by cases z⟩
  have hargs := ha.run cpos _ _ σ H _ I3 hq
  have hargs : wpAny _ _ (spliced (backTo cpos (starEach [e] (envF F fI s₀.heap.objs.size)))) _ _ _ := hargs
  rw [hst] at hargs ⊢
  refine PySem.W.kxs_callWith (i := "ValueError.__init__") (x := a) (by rfl) (PySem.Calls.evalArgs_plain ?_)
  refine wpAny_mono hargs (fun us s1 ⟨vs, H1, J1, r1, eH, lv, q⟩ => ?_) fun _ _ z => z
  subst eH
  obtain ⟨hu, _⟩ := J1.pin (h1.objs.size, PySem.W.kxs_mw "ValueError.__init__" a) (List.mem_append_right _ List.mem_cons_self)
  refine ⟨hu, ?_⟩
  refine mw_call T.oex J1 ea ?_ q
  show us.length ≤ sizeLine
  rw [← Paired.length r1, lv]
  decide
def eiBody (arg f : Str) (e : Expr) (p0 p1 apos cpos epos sp fp np ap : Pos) : List Stmt :=
  [.Expr (.Call (.Attribute (.Call (.Name "super" p0) [] [] p1) "__init__" apos) [e] [] cpos) epos, .Assign [.Attribute (.Name "self" sp) f fp] (.Name arg np) ap]
theorem fnn_einit {CX : CXT} {P : Program} {w : World} {K : PySem.W.Frag} {mg : Str → Option Value} {base : Heap} {N : List Str} {C fI cc : Addr} {F : NF} {arg f : Str} {e : Expr} {k : Nat} {p0 p1 apos cpos epos sp fp np ap : Pos} (T : EIni P K C fI cc F arg f e)
    (S : NScope N ["self", arg] ["__class__"] F.scope) (hbody : F.body = eiBody arg f e p0 p1 apos cpos epos sp fp np ap) (hsu : F.scope.names.lookup ("super" : Str) = some .globalImplicit) (hgl : mg "super" = none) (hN0 : N[0]? = some ("self" : Str)) (hN1 : N[1]? = some arg)
    (hd1 : (arg == ("__debug__" : Str)) = false) (hd2 : (arg == ("__classdict__" : Str)) = false)
    (hev : ∀ env : Env, ∃ pl, eval (.Call (.Attribute (.Call (.Name "super" p0) [] [] p1) "__init__" apos) [e] [] cpos) env = (do
      let ov ← attributeBase (.Call (.Name "super" p0) [] [] p1) "__init__" env (eval (.Call (.Name "super" p0) [] [] p1) env)
      standAt apos.atName
      let (f, first) ← holding [ov] (getMethod ov "__init__" pl)
      callWith cpos f first (backTo cpos (starEach [e] env)) []))
    (hst : ∀ env : Env, starEach [e] env = (false, eval e env) :: starEach [] env) (hsw : ∀ env : Env, swapsWith (.Call (.Attribute (.Call (.Name "super" p0) [] [] p1) "__init__" apos) [e] [] cpos) none epos.line env = pure false)
    (hsw2 : ∀ env : Env, swapsWith (.Name arg np) (some (.Attribute (.Name "self" sp) f fp)) ap.line env = pure false) (hint : ∀ env : Env, env.scope.kind = .function → interactive env = false)
    (ha : ∀ X : Cx, X.N[1]? = some arg → Vis X.env.scope arg → ∃ ta : TA, PA X [e] ta ∧ ∀ (σ : L2.St) (H : Hp) (i : Int) (Q : List V → Hp → Prop), σ[1]? = some (some (.int i)) → i.natAbs.log2 < 1920 → (∀ v, Q [v] H) → ta σ H Q)
    {fd : FuncData} (hfd : ∃ oc od osl, K.lookup fI = some ⟨oc, od, .func fd, osl⟩) :
    Fnn P w K mg base CX (k + 1) fI fd ["self", arg] (spEI K C f) := by
  refine ⟨fun vs H Q E ⟨a, i, e, _⟩ => by rw [e]; rfl, fun A outer s H args us vs Q E hr e0 hb r hsp => ?_⟩
  obtain ⟨a, i, rfl, hi, ea, hq⟩ := hsp
  have KX : K.In s.heap := e0.mod.kin.keeps fun b o e => (e0.bs b o e).1
  have lim : s.heap.NoLimit := e0.mod.nolimit.keeps fun b o e => (e0.bs b o e).1
  obtain ⟨oc, od, dV, kV, doc, pm, an, ct, osl, lk⟩ := T.lk
  obtain ⟨oc2, od2, osl2, lk2⟩ := hfd
  have efd : fd = PySem.W.fnX F.name F.qual F.params F.body F.scope F.cl dV kV doc pm an (.ref F.c) ct := by
    rw [lk] at lk2
    have := Option.some.inj lk2
    injection this with _ _ h3 _
    injection h3 with h4
    exact h4.symm
  subst efd
  obtain ⟨c2, d2, s2, lkcell⟩ := T.cell
  have Cl : CellsAt F.cl ["__class__"] [none] s.heap H := by
    rw [T.cl]
    refine ⟨rfl, fun y c e => ?_, fun x y c e1 e2 => ?_, fun j y e => ?_⟩
    · have ey : c = cc := by
        by_cases z : y = "__class__"
        · subst z
          simp [List.lookup] at e
          exact e.symm
        · simp [List.lookup, beq_eq_false_iff_ne.mpr z] at e
      subst ey
      exact ⟨(e0.bs _ _ (e0.mod.kin _ _ lkcell)).2, _, ⟨_, KX _ _ lkcell, rfl⟩⟩
    · have g : ∀ z : Str, ([(("__class__" : Str), cc)] : List (Str × Addr)).lookup z = some c → z = "__class__" := fun z e => by
        by_cases h : z = "__class__"
        · exact h
        · simp [List.lookup, beq_eq_false_iff_ne.mpr h] at e
      rw [g x e1, g y e2]
    · match j, e with
      | 0, e =>
        cases e
        refine ⟨cc, by simp [List.lookup], fun v ev => ?_⟩
        cases ev
      | j + 1, e => simp at e
  refine codeAny_call_function hr.room.depth (KX _ _ lk) rfl S.co S.gen rfl (PySem.W.codeRec_of KX T.cd) (hb _ _ _ _ ?_)
  refine wpAny_newFunctionEnv S.nocell (fun ⟨n, _⟩ hy => S.par n (List.of_mem_zip hy).1) (fun h₁ hns hsb => ⟨lim.fresh _ hsb, ?_⟩) S.kind
  show codeAny _ _ (.func F.body (envF F fI s.heap.objs.size)) _ _
  have kp : ∀ b o, s.heap.get? b = some o → h₁.get? b = some o := fun b o e => hsb.extBut b o (Nat.ne_of_lt (Heap.lt_size e)) (Heap.get?_push_of_some _ e)
  have I : L2.Inv (ncx CX P w K mg base N F fI A outer s H E) [] (startF N [.ref a, .int i] [none]) H { s with heap := h₁, toks := s.toks + ((([("self" : Str), arg] : List Str)).zip us).length } := inv_startN S hr.room.hd e0 rfl r Cl hns kp
  have s0 : (startF N [.ref a, .int i] [none])[0]? = some (some (.ref a)) := rfl
  have s1 : (startF N [.ref a, .int i] [none])[1]? = some (some (.int i)) := rfl
  have va : F.scope.names.lookup arg = some .local := S.par arg (by simp)
  have vs : F.scope.names.lookup ("self" : Str) = some .local := S.par _ (by simp)
  refine ks_codeAny_funcAt ?_
  refine ks_wpAt_mono (Q := SP (ncx CX P w K mg base N F fI A outer s H E) [] { nx := fun _ H' => Q .non H', rt := Q }) (E := (ncx CX P w K mg base N F fI A outer s H E).xe) ?_ (fun fl s' hs => ?_) fun e s' hs => hs
  · rw [hbody]
    refine ks_wpAt_execs_cons ?_
    obtain ⟨pl, hpl⟩ := hev (envF F fI s.heap.objs.size)
    refine ks_wpAt_Expr_any ?_ (hint _ S.kind) (hsw _)
    obtain ⟨ta, hta, hread⟩ := ha (ncx CX P w K mg base N F fI A outer s H E) hN1 (.inl va)
    rw [← hbody]
    refine super_init T (pl := pl) e0.frames hsu (S.frk _ (by simp)) vs S.kind hN0 hgl I s0 ea hta (hread _ _ i _ s1 hi fun v => ⟨rfl, rfl, fun s' J => ?_⟩) (hst _) hpl
    show _root_.PySem.wpAt _ _ _ (execs [_] _) _ _ _
    have P2 : PS (ncx CX P w K mg base N F fI A outer s H E) (.Assign [.Attribute (.Name "self" sp) f fp] (.Name arg np) ap) (tOst K f (tVar 0) (tVar 1)) := ps_ost (pe_var hN0 (.inl vs)) (pe_var hN1 (.inl va) hd1 hd2) (hsw2 _)
    refine ks_wpAt_execs_cons (wpAt_of_wpAny ?_)
    refine wpAny_mono (P2.run [] s' _ H { nx := fun _ H' => Q .non H', rt := Q } J ?_) (fun fl s2 hs => ?_) fun _ _ z => z
    · exact ⟨_, s1, _, s0, a, C, rfl, T.oex, T.noat, .inl ⟨ea, fun dx n ne => hq dx n ne⟩⟩
    · cases fl with
      | next => exact wpAt_of_wpAny (wpAny_execs_nil hs)
      | ret u => exact hs
      | brk => exact hs
      | cont => exact hs
  · have fin : ∀ {σ' : L2.St} {H' : Hp} {v : V} {u : Value}, L2.Inv (ncx CX P w K mg base N F fI A outer s H E) [] σ' H' s' → L2.RelV v u → Q v H' → L2.CE outer P w H s Q u s' :=
      fun {σ' H' v u} J rv q => ⟨v, H', J.os, J.bare, J.base, J.hok, rv, q⟩
    cases fl with
    | ret u =>
      obtain ⟨v, σ', H', J, rv, q⟩ := hs
      exact fin J rv q
    | next =>
      obtain ⟨σ', H', J, q⟩ := hs
      exact fin (v := V.non) (u := Value.none) J rfl q
    | brk =>
      obtain ⟨_, _, _, q⟩ := hs
      exact False.elim q
    | cont =>
      obtain ⟨_, _, _, q⟩ := hs
      exact False.elim q
end RT

set_option maxRecDepth 100000
set_option maxHeartbeats 4000000

namespace RT
open PySem PySem.Spec PyProof.Rows L2
inductive OCell where
  | obj (c : Str) (fs : List (Str × Vl))
  | exc (a : Addr) (dd : Option (Addr × Str)) (d : Dt)
abbrev OS := List (Nat × OCell)
structure Flds (K : PySem.W.Frag) (F : Hp) (A : List Addr) (fs : List (Str × Vl)) (us : List (Str × V)) : Prop where
  keys : us.map (·.1) = fs.map (·.1)
  vals : ∀ f v, fs.lookup f = some v → ∃ u, us.lookup f = some u ∧ RepV K F A v u
structure OsOk (K : PySem.W.Frag) (os : OS) (W F : Hp) (A : List Addr) : Prop where
  ob : ∀ k c fs, os.lookup k = some (.obj c fs) → ∃ a C dx us, A[k]? = some a ∧ W a = some (.ins C dx us) ∧ PySem.W.nsIn K mainGlobals c = some (some (.ref C)) ∧ Flds K F A fs us
  ex : ∀ k a dd d, os.lookup k = some (.exc a dd d) → A[k]? = some a ∧ ∀ b f, dd = some (b, f) → ∃ u, W b = some (.xd [(f, u)]) ∧ Rep K F d u
  nd : ∀ j k c fs c' fs' a, os.lookup j = some (.obj c fs) → os.lookup k = some (.obj c' fs') → A[j]? = some a → A[k]? = some a → j = k
theorem Flds.mono {K : PySem.W.Frag} {F F' : Hp} {A A' : List Addr} {fs : List (Str × Vl)} {us : List (Str × V)} (h : Flds K F A fs us) (s : Same F F') (p : A <+: A') : Flds K F' A' fs us :=
  ⟨h.keys, fun f v e => let ⟨u, h1, h2⟩ := h.vals f v e; ⟨u, h1, RepV.mono s p h2⟩⟩
theorem pre_get {A A' : List Addr} {k : Nat} {a : Addr} (p : A <+: A') (h : A[k]? = some a) : A'[k]? = some a := by
  obtain ⟨t, rfl⟩ := p
  rw [List.getElem?_append_left (List.getElem?_eq_some_iff.mp h).1]
  exact h
theorem OsOk.mono {K : PySem.W.Frag} {os : OS} {W W' F F' : Hp} {A A' : List Addr} (h : OsOk K os W F A) (sW : SameO W W') (s : Same F F') (p : A <+: A') : OsOk K os W' F' A' where
  ob := fun k c fs e => by
    obtain ⟨a, C, dx, us, h1, h2, h3, h4⟩ := h.ob k c fs e
    exact ⟨a, C, dx, us, pre_get p h1, sW _ _ True.intro h2, h3, h4.mono s p⟩
  ex := fun k a dd d e => by
    obtain ⟨h1, h2⟩ := h.ex k a dd d e
    refine ⟨pre_get p h1, fun b f z => ?_⟩
    obtain ⟨u, h3, h4⟩ := h2 b f z
    exact ⟨u, sW _ _ True.intro h3, Rep.mono s h4⟩
  nd := fun j k c fs c' fs' a e1 e2 h1 h2 => by
    obtain ⟨a1, _, _, _, g1, _⟩ := h.ob j c fs e1
    obtain ⟨a2, _, _, _, g2, _⟩ := h.ob k c' fs' e2
    have q1 := pre_get p g1
    have q2 := pre_get p g2
    rw [h1] at q1
    rw [h2] at q2
    cases q1
    cases q2
    exact h.nd j k c fs c' fs' a e1 e2 g1 g2
@[reducible] def gho (K : PySem.W.Frag) (os : OS) : Ghost := ⟨OsOk K os, fun h a b c => OsOk.mono h a b c⟩
theorem Good.regh {g1 g2 : Ghost} {K : PySem.W.Frag} {W F : Hp} {A : List Addr} {m : M} {σ : L2.St} {H : Hp} (G : @Good g1 K W F A m σ H) (h : g2.p W F A) : @Good g2 K W F A m σ H := by
  obtain ⟨e, h1, d, sl, s, l, st, nd, tb, _⟩ := G
  exact @Good.mk g2 _ _ _ _ _ _ _ e h1 d sl s l st nd tb h
theorem Good.ghp {g : Ghost} {K : PySem.W.Frag} {W F : Hp} {A : List Addr} {m : M} {σ : L2.St} {H : Hp} (G : @Good g K W F A m σ H) : g.p W F A := by
  obtain ⟨_, _, _, _, _, _, _, _, _, h⟩ := G
  exact h
structure GoodO (K : PySem.W.Frag) (W F : Hp) (A : List Addr) (m : M) (os : OS) (σ : L2.St) (H : Hp) (W' : Hp) : Prop where
  sW : Same W W'
  out : ∀ k c fs a, os.lookup k = some (.obj c fs) → A[k]? = some a → W a = none
  G : @Good (gho K os) K W' F A m σ H
theorem GoodO.next {K : PySem.W.Frag} {W F F' : Hp} {A A' : List Addr} {m m' : M} {os : OS} {σ σ' : L2.St} {H H' W' : Hp} (G : GoodO K W F A m os σ H W') (p : A <+: A') (G' : @Good (gho K os) K W' F' A' m' σ' H') : GoodO K W F' A' m' os σ' H' W' :=
  ⟨G.sW, fun k c fs a e h => by
    obtain ⟨a0, _, _, _, g1, _⟩ := (Good.ghp G.G).ob k c fs e
    have := pre_get p g1
    rw [h] at this
    cases this
    exact G.out k c fs a e g1, G'⟩
def fldOf (x : Str) : Option Str :=
  if x = "NoSuchElement" then some "index" else if x = "CannotShift" then some "index" else if x = "NoSuchPosition" then some "index" else if x = "TokenError" then some "token" else if x = "PowerCut" then some "written" else none
def XFld (K : PySem.W.Frag) (W F H : Hp) (x : Str) (d : Dt) (dd : Option Addr) : Prop := match fldOf x with
  | none => dd = none
  | some f => ∃ b u, dd = some b ∧ H b = some (.xd [(f, u)]) ∧ Rep K F d u ∧ F b = none ∧ W b = none

abbrev EXO := Str → Dt → M → OS → Prop
abbrev DEO := EXO → M → OS → (Vl → M → OS → Prop) → Prop
abbrev DAO := EXO → M → OS → (List Vl → M → OS → Prop) → Prop
abbrev DTO := EXO → M → OS → (Bool → M → OS → Prop) → Prop
structure DOEnds where
  nx : M → OS → Prop
  rt : Vl → M → OS → Prop
  bk : M → OS → Prop
  ct : M → OS → Prop
abbrev DSO := EXO → DOEnds → M → OS → Prop
def AfterO (K : PySem.W.Frag) (W F : Hp) (A : List Addr) (σ : L2.St) {α : Type} (Q : α → M → OS → Prop) (R : Hp → List Addr → α → Hp → Prop) : Prop :=
  ∀ F' A' x m' os' H' W', Same F F' → A <+: A' → GoodO K W F' A' m' os' σ H' W' → Q x m' os' → R F' A' x H'
def AfterX (K : PySem.W.Frag) (W F : Hp) (A : List Addr) (Ex : EXO) (Wx : WX) : Prop :=
  ∀ F' A' m' os' σ' H' W' x d v dd, Same F F' → A <+: A' → GoodO K W F' A' m' os' σ' H' W' → XFld K W' F' H' x d dd → PySem.W.nsIn K mainGlobals x = some (some v) → Ex x d m' os' → Wx v dd σ' H'
theorem AfterX.mono {K : PySem.W.Frag} {W F F' : Hp} {A A' : List Addr} {Ex : EXO} {Wx : WX} (c : AfterX K W F A Ex Wx) (s : Same F F') (p : A <+: A') : AfterX K W F' A' Ex Wx :=
  fun F2 A2 m os σ H W' x d v dd s2 p2 => c F2 A2 m os σ H W' x d v dd (s.trans s2) (pre_trans p p2)
def liftEO (K : PySem.W.Frag) (Wx : WX) (t : DEO) : TE := fun σ H Q => ∃ W F A m os W' Qd Ex, GoodO K W F A m os σ H W' ∧ t Ex m os Qd ∧
  AfterO K W F A σ Qd (fun F' A' v H' => ∀ u, RepV K F' A' v u → Q u H') ∧ AfterX K W F A Ex Wx
def liftTO (K : PySem.W.Frag) (Wx : WX) (t : DTO) : TT := fun σ H Q => ∃ W F A m os W' Qd Ex, GoodO K W F A m os σ H W' ∧ t Ex m os Qd ∧
  AfterO K W F A σ Qd (fun _ _ b H' => Q b H') ∧ AfterX K W F A Ex Wx
def liftAO (K : PySem.W.Frag) (Wx : WX) (t : DAO) : TA := fun σ H Q => ∃ W F A m os W' Qd Ex, GoodO K W F A m os σ H W' ∧ t Ex m os Qd ∧
  AfterO K W F A σ Qd (fun F' A' vs H' => ∀ us, RepVs K F' A' vs us → Q us H') ∧ AfterX K W F A Ex Wx
structure ContsO (K : PySem.W.Frag) (W F : Hp) (A : List Addr) (E : DOEnds) (D : Ends) : Prop where
  nx : ∀ F' A' m' os' σ' H' W', Same F F' → A <+: A' → GoodO K W F' A' m' os' σ' H' W' → E.nx m' os' → D.nx σ' H'
  rt : ∀ F' A' m' os' σ' H' W' v u, Same F F' → A <+: A' → GoodO K W F' A' m' os' σ' H' W' → RepV K F' A' v u → E.rt v m' os' → D.rt u H'
  bk : ∀ F' A' m' os' σ' H' W', Same F F' → A <+: A' → GoodO K W F' A' m' os' σ' H' W' → E.bk m' os' → D.bk σ' H'
  ct : ∀ F' A' m' os' σ' H' W', Same F F' → A <+: A' → GoodO K W F' A' m' os' σ' H' W' → E.ct m' os' → D.ct σ' H'
theorem ContsO.mono {K : PySem.W.Frag} {W F F' : Hp} {A A' : List Addr} {E : DOEnds} {D : Ends} (c : ContsO K W F A E D) (s : Same F F') (p : A <+: A') : ContsO K W F' A' E D :=
  ⟨fun F2 A2 m os σ H W' s2 p2 => c.nx F2 A2 m os σ H W' (s.trans s2) (pre_trans p p2), fun F2 A2 m os σ H W' v u s2 p2 => c.rt F2 A2 m os σ H W' v u (s.trans s2) (pre_trans p p2),
    fun F2 A2 m os σ H W' s2 p2 => c.bk F2 A2 m os σ H W' (s.trans s2) (pre_trans p p2), fun F2 A2 m os σ H W' s2 p2 => c.ct F2 A2 m os σ H W' (s.trans s2) (pre_trans p p2)⟩
def liftSO (K : PySem.W.Frag) (Wx : WX) (t : DSO) : TS := fun D σ H => ∃ W F A m os W' E Ex, GoodO K W F A m os σ H W' ∧ t Ex E m os ∧ ContsO K W F A E D ∧ AfterX K W F A Ex Wx
abbrev JEO (X : Cx) (Wx : WX) (e : Expr) (t : DEO) : Prop := PE X e (liftEO X.K Wx t)
abbrev JTO (X : Cx) (Wx : WX) (e : Expr) (t : DTO) : Prop := PT X e (liftTO X.K Wx t)
abbrev JAO (X : Cx) (Wx : WX) (e : List Expr) (t : DAO) : Prop := PA X e (liftAO X.K Wx t)
abbrev JSO (X : Cx) (Wx : WX) (e : Stmt) (t : DSO) : Prop := PS X e (liftSO X.K Wx t)
abbrev JSOs (X : Cx) (Wx : WX) (e : List Stmt) (t : DSO) : Prop := PSs X e (liftSO X.K Wx t)
section
variable {X : Cx} {Wx : WX}

def xE (t : OS → DE) : DEO := fun _ m os Q => t os m fun v m' => Q v m' os
def xT (t : OS → DT) : DTO := fun _ m os Q => t os m fun b m' => Q b m' os
def xA (t : OS → DA) : DAO := fun _ m os Q => t os m fun vs m' => Q vs m' os
def xS (t : OS → DS) : DSO := fun _ E m os => t os ⟨fun m' => E.nx m' os, fun v m' => E.rt v m' os, fun m' => E.bk m' os, fun m' => E.ct m' os⟩ m
theorem eo_of {e : Expr} {t : OS → DE} (h : ∀ os, @JE (gho X.K os) X e (t os)) : JEO X Wx e (xE t) := ⟨fun pins s σ H Q I ⟨W, F, A, m, os, W', Qd, Ex, G, q, c, _⟩ =>
  (h os).run pins s σ H Q I ⟨W', F, A, m, _, G.G, q, fun F1 A1 v m1 H1 s1 p1 G1 q1 => c F1 A1 v m1 os H1 W' s1 p1 (G.next p1 G1) q1⟩⟩
theorem to_of {e : Expr} {t : OS → DT} (h : ∀ os, @JT (gho X.K os) X e (t os)) : JTO X Wx e (xT t) := ⟨fun pins s σ H Q I ⟨W, F, A, m, os, W', Qd, Ex, G, q, c, _⟩ =>
  (h os).run pins s σ H Q I ⟨W', F, A, m, _, G.G, q, fun F1 A1 v m1 H1 s1 p1 G1 q1 => c F1 A1 v m1 os H1 W' s1 p1 (G.next p1 G1) q1⟩⟩
theorem ao_of {e : List Expr} {t : OS → DA} (h : ∀ os, @JA (gho X.K os) X e (t os)) : JAO X Wx e (xA t) := ⟨fun p pins s σ H Q I ⟨W, F, A, m, os, W', Qd, Ex, G, q, c, _⟩ =>
  (h os).run p pins s σ H Q I ⟨W', F, A, m, _, G.G, q, fun F1 A1 v m1 H1 s1 p1 G1 q1 => c F1 A1 v m1 os H1 W' s1 p1 (G.next p1 G1) q1⟩⟩
theorem so_of {e : Stmt} {t : OS → DS} (h : ∀ os, @JS (gho X.K os) X e (t os)) : JSO X Wx e (xS t) := ⟨fun pins s σ H D I ⟨W, F, A, m, os, W', E, Ex, G, q, c, _⟩ => by
  letI : Ghost := gho X.K os
  exact (h os).run pins s σ H D I ⟨W', F, A, m, _, G.G, q, ⟨fun F1 A1 m1 σ1 H1 s1 p1 G1 q1 => c.nx F1 A1 m1 os σ1 H1 W' s1 p1 (G.next p1 G1) q1, fun F1 A1 m1 σ1 H1 v u s1 p1 G1 r1 q1 => c.rt F1 A1 m1 os σ1 H1 W' v u s1 p1 (G.next p1 G1) r1 q1,
    fun F1 A1 m1 σ1 H1 s1 p1 G1 q1 => c.bk F1 A1 m1 os σ1 H1 W' s1 p1 (G.next p1 G1) q1, fun F1 A1 m1 σ1 H1 s1 p1 G1 q1 => c.ct F1 A1 m1 os σ1 H1 W' s1 p1 (G.next p1 G1) q1⟩⟩⟩

def xNext : DSO := fun _ E m os => E.nx m os
def xSeq (t u : DSO) : DSO := fun Ex E m os => t Ex ⟨fun m1 os1 => u Ex E m1 os1, E.rt, E.bk, E.ct⟩ m os
variable {st : Stmt} {rest : List Stmt} {t u : DSO} {pos : Pos}
theorem so_nil : JSOs X Wx [] xNext := pss_nil.imp fun D σ H ⟨W, F, A, m, os, W', E, Ex, G, h, c, _⟩ => c.nx F A m os σ H W' (Same.refl _) (pre_refl _) G h
theorem so_cons (h1 : JSO X Wx st t) (h2 : JSOs X Wx rest u) : JSOs X Wx (st :: rest) (xSeq t u) := (pss_cons h1 h2).imp fun D σ H h => by
  obtain ⟨W, F, A, m, os, W', E, Ex, G, h, c, cx⟩ := h
  exact ⟨W, F, A, m, os, W', _, Ex, G, h, ⟨fun F1 A1 m1 os1 σ1 H1 W1 s1 p1 G1 q1 => ⟨W, F1, A1, m1, os1, W1, E, Ex, G1, q1, c.mono s1 p1, cx.mono s1 p1⟩, c.rt, c.bk, c.ct⟩, cx⟩
theorem so_one (h1 : JSO X Wx st t) : JSOs X Wx [st] t := pss_one h1
def xIf (ct : DTO) (t u : DSO) : DSO := fun Ex E m os => ct Ex m os fun b m1 os1 => if b = true then t Ex E m1 os1 else u Ex E m1 os1
theorem so_if {c : Expr} {a b : List Stmt} {ct : DTO} (hc : JTO X Wx c ct) (ha : JSOs X Wx a t) (hb : JSOs X Wx b u) : JSO X Wx (.If c a b pos) (xIf ct t u) := (ps_if hc ha hb).imp fun D σ H hh => by
  obtain ⟨W, F, A, m, os, W', E, Ex, G, h, c, cx⟩ := hh
  refine ⟨W, F, A, m, os, W', _, Ex, G, h, fun F1 A1 b m1 os1 H1 W1 s1 p1 G1 q1 => ?_, cx⟩
  cases b with
  | true => exact ⟨W, F1, A1, m1, os1, W1, E, Ex, G1, q1, c.mono s1 p1, cx.mono s1 p1⟩
  | false => exact ⟨W, F1, A1, m1, os1, W1, E, Ex, G1, q1, c.mono s1 p1, cx.mono s1 p1⟩
def xRet (t : DEO) : DSO := fun Ex E m os => t Ex m os fun v m1 os1 => E.rt v m1 os1
theorem so_ret {e : Expr} {te : DEO} (he : JEO X Wx e te) : JSO X Wx (.Return (some e) pos) (xRet te) := (ps_ret he).imp fun D σ H hh => by
  obtain ⟨W, F, A, m, os, W', E, Ex, G, h, c, cx⟩ := hh
  exact ⟨W, F, A, m, os, W', _, Ex, G, h, fun F1 A1 v m1 os1 H1 W1 s1 p1 G1 q1 u r1 => c.rt F1 A1 m1 os1 σ H1 W1 v u s1 p1 G1 r1 q1, cx⟩
def xDo (t : DEO) : DSO := fun Ex E m os => t Ex m os fun _ m1 os1 => E.nx m1 os1
theorem so_do {e : Expr} {te : DEO} (he : JEO X Wx e te) (hs : swapsWith e none pos.line X.env = pure false := by rfl) : JSO X Wx (.Expr e pos) (xDo te) := (ps_expr he hs).imp fun D σ H hh => by
  obtain ⟨W, F, A, m, os, W', E, Ex, G, h, c, cx⟩ := hh
  exact ⟨W, F, A, m, os, W', _, Ex, G, h, fun F1 A1 v m1 os1 H1 W1 s1 p1 G1 q1 u r1 => c.nx F1 A1 m1 os1 σ H1 W1 s1 p1 G1 q1, cx⟩
def xSet (i : Nat) (t : DEO) : DSO := fun Ex E m os => t Ex m os fun v m1 os1 => E.nx ⟨m1.sl.set i (some v), m1.st⟩ os1
theorem so_set {i : Nat} {x : Str} {pos' : Pos} {e : Expr} {te : DEO} (hN : X.N.Nodup) (s : SlotOk X i x) (he : JEO X Wx e te) (hs : swapsWith e (some (.Name x pos')) pos.line X.env = pure false := by rfl) : JSO X Wx (.Assign [.Name x pos'] e pos) (xSet i te) :=
  (ps_set hN s.hN s.hl he hs s.hf).imp fun D σ H hh => by
    obtain ⟨W, F, A, m, os, W', E, Ex, G, h, c, cx⟩ := hh
    exact ⟨W, F, A, m, os, W', _, Ex, G, h, fun F1 A1 v m1 os1 H1 W1 s1 p1 G1 q1 u r1 => c.nx F1 A1 _ os1 _ H1 W1 s1 p1 (G1.next (pre_refl _) (@Good.store (gho X.K os1) _ _ _ _ _ _ _ _ _ _ G1.G r1)) q1, cx⟩
end
end RT

set_option maxRecDepth 100000
set_option maxHeartbeats 4000000

namespace RT
open PySem PySem.Spec PyProof.Rows L2
theorem Good.bareG [Gh : Ghost] {K : PySem.W.Frag} {W F : Hp} {A : List Addr} {m : M} {σ : L2.St} {H : Hp} (G : Good K W F A m σ H) : Good K W F A ⟨[], m.st⟩ [] H :=
  ⟨G.ext, G.hid, G.dj, rfl, fun i v e => by simp at e, G.len, G.st, G.nd, G.tb, G.gh⟩
theorem Good.slots {g1 g2 : Ghost} {K : PySem.W.Frag} {W W2 F F' : Hp} {A A' : List Addr} {m : M} {σ : L2.St} {H H' : Hp} {st' : List Cell} (G : @Good g1 K W F A m σ H) (s : Same F F') (p : A <+: A') (G' : @Good g2 K W2 F' A' ⟨[], st'⟩ [] H') : @Good g2 K W2 F' A' ⟨m.sl, st'⟩ σ H' := by
  obtain ⟨e', h', d', _, _, l', st', nd', tb', gh'⟩ := G'
  obtain ⟨_, _, _, sl, sv, _⟩ := G
  exact @Good.mk g2 _ _ _ _ _ _ _ e' h' d' sl (fun i v e => let ⟨u, h1, h2⟩ := sv i v e; ⟨u, h1, RepV.mono s p h2⟩) l' st' nd' tb' gh'
theorem GoodO.bare {K : PySem.W.Frag} {W F : Hp} {A : List Addr} {m : M} {os : OS} {σ : L2.St} {H W' : Hp} (G : GoodO K W F A m os σ H W') : GoodO K W F A ⟨[], m.st⟩ os [] H W' :=
  ⟨G.sW, G.out, @Good.bareG (gho K os) _ _ _ _ _ _ _ G.G⟩
theorem GoodO.back {K : PySem.W.Frag} {W F F' : Hp} {A A' : List Addr} {m : M} {os os' : OS} {σ : L2.St} {H H' W1 W2 : Hp} {st' : List Cell} (G : GoodO K W F A m os σ H W1) (s : Same F F') (p : A <+: A') (G' : GoodO K W F' A' ⟨[], st'⟩ os' [] H' W2) : GoodO K W F' A' ⟨m.sl, st'⟩ os' σ H' W2 :=
  ⟨G'.sW, G'.out, G.G.slots s p G'.G⟩

def xNil : DAO := fun _ m os Q => Q [] m os
def xCons (t : DEO) (ts : DAO) : DAO := fun Ex m os Q => t Ex m os fun v m1 os1 => ts Ex m1 os1 fun vs m2 os2 => Q (v :: vs) m2 os2
section
variable {X : Cx} {Wx : WX} {pos : Pos}
theorem ao_nil : JAO X Wx [] xNil := pa_nil.imp fun σ H Q ⟨W, F, A, m, os, W', Qd, Ex, G, h, c, _⟩ => c F A [] m os H W' (Same.refl _) (pre_refl _) G h [] rfl
theorem ao_cons {e : Expr} {es : List Expr} {t : DEO} {ts : DAO} (h : JEO X Wx e t) (hs : JAO X Wx es ts) (he : starEach (e :: es) X.env = (false, eval e X.env) :: starEach es X.env := by rfl) : JAO X Wx (e :: es) (xCons t ts) := by
  refine (pa_cons h hs he).imp fun σ H Q hh => ?_
  obtain ⟨W, F, A, m, os, W', Qd, Ex, G, h, c, cx⟩ := hh
  refine ⟨W, F, A, m, os, W', _, Ex, G, h, fun F1 A1 v m1 os1 H1 W1 s1 p1 G1 q1 u r1 => ⟨W, F1, A1, m1, os1, W1, _, Ex, G1, q1, fun F2 A2 vs m2 os2 H2 W2 s2 p2 G2 q2 us r2 => ?_, cx.mono s1 p1⟩, cx⟩
  exact c F2 A2 (v :: vs) m2 os2 H2 W2 (s1.trans s2) (pre_trans p1 p2) G2 q2 (u :: us) ⟨u, us, rfl, RepV.mono s2 p2 r1, r2⟩

abbrev EXS := Str → Dt → List Cell → OS → Prop
abbrev FSpecO := List Vl → List Cell → OS → (Vl → List Cell → OS → Prop) → EXS → Prop
def liftSpO (K : PySem.W.Frag) (sp : FSpecO) : Sp := fun vs H Q E => ∃ W F A st os W' args Qd Ex, GoodO K W F A ⟨[], st⟩ os [] H W' ∧ RepVs K F A args vs ∧ sp args st os Qd Ex ∧
  (∀ F' A' st' os' H' W2 r u, Same F F' → A <+: A' → GoodO K W F' A' ⟨[], st'⟩ os' [] H' W2 → RepV K F' A' r u → Qd r st' os' → Q u H') ∧
  (∀ F' A' st' os' H' W2 x d v dd, Same F F' → A <+: A' → GoodO K W F' A' ⟨[], st'⟩ os' [] H' W2 → XFld K W2 F' H' x d dd → PySem.W.nsIn K mainGlobals x = some (some v) → Ex x d st' os' → E v dd H')
def FnO (P : Program) (w : World) (K : PySem.W.Frag) (mg : Str → Option Value) (base : Heap) (x : Str) (k : Nat) (sp : FSpecO) : Prop :=
  ∃ (f : Addr) (fd : FuncData) (ps : List Str), Fnn P w K mg base (L2.CX P w) k f fd ps (liftSpO K sp) ∧ mg x = some (.ref f) ∧ PySem.W.keepIn K (.ref f) = true ∧ Binds K fd ps []
def xCall (sp : FSpecO) (ts : DAO) : DEO := fun Ex m os Q => ts Ex m os fun vs m1 os1 => sp vs m1.st os1 (fun r st' os' => Q r ⟨m1.sl, st'⟩ os') (fun x d st' os' => Ex x d ⟨m1.sl, st'⟩ os')
theorem lift_spO {K : PySem.W.Frag} {sp : FSpecO} {W F : Hp} {A : List Addr} {m : M} {os : OS} {σ : L2.St} {H W' : Hp} {vs : List Vl} {us : List V} {Qd : Vl → M → OS → Prop} {Ex : EXO} {Q : VK} (G : GoodO K W F A m os σ H W') (r : RepVs K F A vs us)
    (h : sp vs m.st os (fun r st' os' => Qd r ⟨m.sl, st'⟩ os') (fun x d st' os' => Ex x d ⟨m.sl, st'⟩ os'))
    (c : AfterO K W F A σ Qd (fun F' A' v H' => ∀ u, RepV K F' A' v u → Q u H')) (cx : AfterX K W F A Ex Wx) : liftSpO K sp us H Q (WE Wx σ) :=
  ⟨W, F, A, m.st, os, W', vs, _, _, G.bare, r, h, fun F2 A2 st2 os2 H2 W2 r u s2 p2 G2 r2 q2 => c F2 A2 r _ os2 H2 W2 s2 p2 (G.back s2 p2 G2) q2 u r2,
    fun F2 A2 st2 os2 H2 W2 x d v dd s2 p2 G2 xf e q2 => cx F2 A2 _ os2 σ H2 W2 x d v dd s2 p2 (G.back s2 p2 G2) xf e q2⟩
theorem eo_call {j k : Nat} {x : Str} {p : Pos} {e : Expr} {es : List Expr} {ts : DAO} {sp : FSpecO} (F : FnO X.prog X.w X.K X.mg X.base x j sp) (hr : GRoom k X.A) (hg : Gl X x) (tk : Takes X Wx) (ha : JAO X Wx (e :: es) ts) (hj : j ≤ k := by decide) (hdb : (x == ("__debug__" : Str)) = false := by decide)
    (he : starEach (e :: es) X.env = (false, eval e X.env) :: starEach es X.env := by rfl) (hpl : (backTo pos (starEach es X.env)).any (·.1) = false := by rfl) : JEO X Wx (.Call (.Name x p) (e :: es) [] pos) (xCall sp ts) := by
  obtain ⟨f, fd, ps, F, hm, hk, hb⟩ := F
  refine ⟨fun pins s σ H Q I h => ?_⟩
  obtain ⟨W, Fr, A, m, os, W', Qd, Ex, G, h, c, cx⟩ := h
  refine wpAny_Call_Name_kw (ld_glob I hg hm ?_ hdb)
  refine PySem.W.callWith_K (h₀ := X.base) I.ok.mod.kin hk (thn (ha.run pos pins s σ H (fun us H1 => liftSpO X.K sp us H1 Q (WE Wx σ)) I ?_) fun us s1 ⟨vs, H1, I1, r, q⟩ => ⟨I1.kIn, ?_⟩) he hpl
  · exact ⟨W, Fr, A, m, os, W', _, Ex, G, h, fun F1 A1 vs m1 os1 H1 W1 s1 p1 G1 q1 us r1 => lift_spO G1 r1 q1 (fun F2 A2 v m2 os2 H2 W2 s2 p2 => c F2 A2 v m2 os2 H2 W2 (s1.trans s2) (pre_trans p1 p2)) (cx.mono s1 p1), cx⟩
  · exact run_fnX F (hr.mono hj) hb (passAt tk σ) I1 r q

def spOO (n N : Nat) (b : DSO) : FSpecO := fun args st os Q Ex => args.length = n ∧ b (fun x d m os => Ex x d m.st os) ⟨fun m os => Q (.d .non) m.st os, fun v m os => Q v m.st os, fun _ _ => False, fun _ _ => False⟩ (startM N args st) os
theorem mk_bare {K : PySem.W.Frag} {W F : Hp} {A : List Addr} {st : List Cell} {os : OS} {H W' : Hp} {args : List Vl} {us : List V} {N : Nat} (G : GoodO K W F A ⟨[], st⟩ os [] H W') (r : RepVs K F A args us) (hl : args.length ≤ N) (Nl : List Str) (eN : Nl.length = N) :
    GoodO K W F A (startM N args st) os (L2.start Nl us) H W' := by
  have rl := r.length
  obtain ⟨sW, out, g⟩ := G
  obtain ⟨e', h', d', _, _, l', st', nd', tb', gh'⟩ := g
  refine ⟨sW, out, @Good.mk (gho K os) _ _ _ _ _ _ _ e' h' d' ?_ (fun i v e => ?_) l' st' nd' tb' gh'⟩
  · unfold startM L2.start
    simp [rl, eN]
  · unfold startM at e
    unfold L2.start
    rw [eN, ← rl]
    exact repVs_slots r _ i v e
theorem fnO_of {P : Program} {w : World} {K : PySem.W.Frag} {mg : Str → Option Value} {base : Heap} {y qual : Str} {params : Arguments} {body : List Stmt} {scope : Scope} {kws : List (Str × V)} {f : Addr} {fd : FuncData} {N ps : List Str} {k n m : Nat} {b : DSO} (hns : BaseOk K mg base) (htr : P.given.tree = none)
    (F : FunD K y qual params body scope [] kws f fd) (S : FnScope N ps scope) (hn : ps.length = n) (hN : N.length = m) (hnm : n ≤ m)
    (hd : ∀ (X : Cx) (Wx : WX) (cdv : Value) (A : Around) (outer : List Env) (s : Shared) (H : Hp) (E : XK), X = cxOf (L2.CX P w) P w K mg base N qual scope f cdv A outer s H E → Takes X Wx → CodeIs K f cdv → Amb k X → JSOs X Wx body b) :
    Fnn P w K mg base (L2.CX P w) (k + 1) f fd ps (liftSpO K (spOO n m b)) := by
  subst hn hN
  obtain ⟨oc, od, dV, kV, doc, pm, an, cdv, ct, osl, rfl, lk, hcd, _, _⟩ := F.ex
  refine fnn_of hns htr lk hcd S (fun vs H Q E h => ?_) fun A outer s H vs Q E amb h => ?_
  · obtain ⟨W, F1, A1, st1, os, W', args, Qd, Ex, G, r, q, c, cx⟩ := h
    rw [← r.length]
    exact q.1
  · obtain ⟨W, F1, A1, st1, os, W', args, Qd, Ex, G, r, q, c, cx⟩ := h
    refine ⟨_, hd (cxOf (L2.CX P w) P w K mg base N qual scope f cdv A outer s H E) (fun cls d _ H => E cls d H) cdv A outer s H E rfl (takes_of rfl rfl rfl rfl) ⟨oc, od, _, osl, lk, rfl⟩ amb, ?_⟩
    refine ⟨W, F1, A1, startM N.length args st1, os, W', _, _, mk_bare G r (by rw [q.1]; exact hnm) N rfl, q.2, ⟨?_, ?_, ?_, ?_⟩, ?_⟩
    · exact fun F' A' m' os' σ' H' W2 s' p' G' q' => c F' A' _ os' H' W2 (.d .non) .non s' p' G'.bare rv_non q'
    · exact fun F' A' m' os' σ' H' W2 v u s' p' G' r' q' => c F' A' _ os' H' W2 v u s' p' G'.bare r' q'
    · exact fun _ _ _ _ _ _ _ _ _ _ q' => q'
    · exact fun _ _ _ _ _ _ _ _ _ _ q' => q'
    · exact fun F' A' m' os' σ' H' W2 x d v dd s' p' G' xf e q' => cx F' A' _ os' H' W2 x d v dd s' p' G'.bare xf e q'
theorem mkO {P : Program} {w : World} {K : PySem.W.Frag} {mg : Str → Option Value} {base : Heap} {x y qual : Str} {params : Arguments} {body : List Stmt} {scope : Scope} {kws : List (Str × V)} {f : Addr} {fd : FuncData} {N ps : List Str} {k n m : Nat} {b : DSO} (hns : BaseOk K mg base) (htr : P.given.tree = none)
    (F : FunD K y qual params body scope [] kws f fd) (hm : mg x = some (.ref f)) (S : FnScope N ps scope) (hn : ps.length = n) (hN : N.length = m) (hnm : n ≤ m)
    (hb : ∀ (kV doc pm : Value) (an : Option Addr) (cdv ct : Value) (us : List Value), us.length = ps.length → bindArgs (PySem.W.fnOf y qual params body scope .none kV doc pm an cdv ct) ⟨us, []⟩ = pure (ps.zip us))
    (hd : ∀ (X : Cx) (Wx : WX) (cdv : Value) (A : Around) (outer : List Env) (s : Shared) (H : Hp) (E : XK), X = cxOf (L2.CX P w) P w K mg base N qual scope f cdv A outer s H E → Takes X Wx → CodeIs K f cdv → Amb k X → JSOs X Wx body b) :
    FnO P w K mg base x (k + 1) (spOO n m b) := ⟨f, fd, ps, fnO_of hns htr F S hn hN hnm hd, hm, F.kp, F.bindsN hb⟩
def spBr (kp : Bool) (sp : FSpecO) : FSpec := fun args st Q => sp args st [] (fun v st' _ => retD kp st.length Q v ⟨[], st'⟩) (fun _ _ _ _ => False)
theorem Good.unO {K : PySem.W.Frag} {W F : Hp} {A : List Addr} {m : M} {os : OS} {σ : L2.St} {H W' : Hp} (G : GoodO K W F A m os σ H W') : GoodT K W F A m σ H := by
  obtain ⟨sW, _, g⟩ := G
  obtain ⟨e', h', d', sl, sv, l', st', nd', tb', _⟩ := g
  have wn : ∀ {b : Addr}, W' b = none → W b = none := fun {b} h => by
    cases q : W b with
    | none => rfl
    | some o => rw [sW _ _ q] at h; cases h
  exact @Good.mk Ghost.tt _ _ _ _ _ _ _ e' (sW.trans h') (fun a o e => d' a o (sW _ _ e)) sl sv l' (fun k xs e => let ⟨a, vs, h1, h2, h3, h4, h5⟩ := st' k xs e; ⟨a, vs, h1, h2, h3, h4, wn h5⟩) nd' (fun q hq => ⟨(tb' q hq).1, (tb' q hq).2.1, wn (tb' q hq).2.2⟩) True.intro
theorem osOk_nil {K : PySem.W.Frag} {W F : Hp} {A : List Addr} : OsOk K [] W F A := ⟨fun _ _ _ e => by simp at e, fun _ _ _ _ e => by simp at e, fun _ _ _ _ _ _ _ e => by simp at e⟩
theorem Good.toO {K : PySem.W.Frag} {W F : Hp} {A : List Addr} {m : M} {σ : L2.St} {H : Hp} {g : Ghost} (G : @Good g K W F A m σ H) : GoodO K W F A m [] σ H W :=
  ⟨Same.refl _, fun _ _ _ _ e => by simp at e, @Good.regh g (gho K []) _ _ _ _ _ _ _ G osOk_nil⟩
theorem fn_br {P : Program} {w : World} {K : PySem.W.Frag} {mg : Str → Option Value} {base : Heap} {k : Nat} {f : Addr} {fd : FuncData} {ps : List Str} {sp : FSpecO} (kp : Bool) (F : Fnn P w K mg base (L2.CX P w) k f fd ps (liftSpO K sp)) : Fnn P w K mg base CX0 k f fd ps (liftSp K (spBr kp sp)) := by
  have up : ∀ vs H Q (E : XK), liftSp K (spBr kp sp) vs H Q E → liftSpO K sp vs H Q (fun _ _ _ => False) := fun vs H Q E h => by
    obtain ⟨W, F, A, st, args, Qd, G, r, q, c⟩ := h
    have hl : A.length = st.length := by
      obtain ⟨_, _, _, _, _, l, _⟩ := G
      exact l
    refine ⟨W, F, A, st, [], W, args, _, _, Good.toO G, r, q, fun F' A' st' os' H' W2 r u s' p' G' r' q' => ?_, fun _ _ _ _ _ _ _ _ _ _ _ _ _ _ _ z => z.elim⟩
    exact retD_ok hl s' p' (Good.unO G') r' q' c
  refine ⟨fun vs H Q E h => F.len vs H Q _ (up vs H Q E h), fun A outer s H args us vs Q E hr e0 hb r h => codeAny_mono (F.run A outer s H args us vs Q _ hr e0 hb r (up vs H Q E h)) fun r s' z => ?_⟩
  cases r with
  | ok v => cases v <;> exact z
  | error e =>
    obtain ⟨_, _, _, _, _, _, _, _, _, _, _, _, z⟩ := z
    exact z.elim
end
end RT

set_option maxRecDepth 100000
set_option maxHeartbeats 4000000

namespace RT
open PySem PySem.Spec PyProof.Rows L2
theorem GRoom.make {k : Nat} {A : Around} (r : GRoom (k + 1) A) (C : Addr) (us : List Value) : GRoom k (A.under (.builtin "type.__call__" ⟨.ref C :: us, []⟩)) :=
  ⟨r.room.make C us [], by first | exact r.gd | (have := r.gd; simpa [Around.under, Code.isGuard, guardIds] using this), by have := r.dp; rw [make_depth]; omega⟩
theorem pmk_oexN {X : Cx} {CX : CXT} {x : Str} {C fI : Addr} {k : Nat} {fd : FuncData} {ps : List Str} {sp : Sp} {e : Expr} {es : List Expr} {ta : TA} {p pos : Pos} (T : OexC X.K C) (iC : PySem.W.findIn X.K (.ref C) "__init__" = some (some (.ref fI))) (tI : PySem.W.typeIn X.K (.ref fI) = some (.type "function"))
    (F1 : Fnn X.prog X.w X.K X.mg X.base CX k fI fd ps sp) (hr : GRoom (k + 1) X.A) (hb : Binds X.K fd ps []) (hx : Passes CX X (fun _ _ _ => False)) (hg : Gl X x) (hm : X.mg x = some (.ref C)) (ha : PA X (e :: es) ta)
    (hdb : (x == ("__debug__" : Str)) = false := by decide) (he : starEach (e :: es) X.env = (false, eval e X.env) :: starEach es X.env := by rfl) (hpl : (backTo pos (starEach es X.env)).any (·.1) = false := by rfl) :
    PMk X (.Call (.Name x p) (e :: es) [] pos) (tMkO C sp [] ta) := by
  intro pins s σ H Q I h
  obtain ⟨nm, q, N, bs, bm, sn, sub, ab, col, dd, k0, k1, k2, k3, k5, hC, hbm⟩ := T.cls
  refine wpAny_Call_Name_kw (ld_glob I hg hm ?_ hdb)
  refine PySem.W.callWith_K (h₀ := X.base) I.ok.mod.kin T.kC (thn (ha.run pos pins s σ H _ I h) fun us s1 ⟨vs, H1, I1, r1, hz, q1⟩ => ⟨I1.kIn, ?_⟩) he hpl
  show wpAny _ _ (call (.ref C) us) _ _ _
  obtain ⟨hp, g, dr, tk, os⟩ := s1
  have hsz : hp.objs.size ≤ hp.objs.size + 1 := Nat.le_succ _
  have hn : H1 (hp.objs.size + 1) = none := I1.hok.fresh hsz
  have hq := q1 (hp.objs.size + 1) hn
  have kk : ∀ b o, hp.get? b = some o → ((hp.push (PySem.W.kdv_tup us)).push (PySem.HandSPX.excO C hp.objs.size)).get? b = some o := fun b o e => Heap.get?_push_of_some _ (Heap.get?_push_of_some _ e)
  have hget : ((hp.push (PySem.W.kdv_tup us)).push (PySem.HandSPX.excO C hp.objs.size)).get? (hp.objs.size + 1) = some (PySem.HandSPX.excO C hp.objs.size) := by heap_get
  have I2 : L2.Inv X pins σ (upd H1 (hp.objs.size + 1) (exo (hp.objs.size + 1) C none)) ⟨(hp.push (PySem.W.kdv_tup us)).push (PySem.HandSPX.excO C hp.objs.size), g, dr, tk, os⟩ :=
    I1.laid (t' := tk) (a := hp.objs.size + 1) (o := exo (hp.objs.size + 1) C none) (h' := (hp.push (PySem.W.kdv_tup us)).push (PySem.HandSPX.excO C hp.objs.size)) kk hsz (exo_ok hget)
  rw [List.append_nil] at hq
  have r2 : Vals (V.ref (hp.objs.size + 1) :: vs) (Value.ref (hp.objs.size + 1) :: us) := .cons rfl r1
  have hl : (Value.ref (hp.objs.size + 1) :: us).length = ps.length := by
    have e := r2.length
    rw [F1.len _ _ _ _ hq] at e
    exact e.symm
  have hus : us.length ≤ sizeLine := by
    rw [← Paired.length r1, sizeLine_eq]
    omega
  have bd := hb _ (Value.ref (hp.objs.size + 1) :: us) I2.kIn (by rw [List.append_nil]; exact hl)
  rw [List.append_nil] at bd
  refine wpAny_call (PySem.HandSPX.call_own F.excBase_ValueError (fun Y => PySem.HandSPX.refsVE_contains Y bm hbm) (I1.kIn _ _ hC) (PySem.W.looks_findIn I1.kIn iC) (fun self => PySem.W.bind_fn I1.kIn self tI) hus
    (codeAny_mono (F1.run _ X.stack _ _ ⟨Value.ref (hp.objs.size + 1) :: us, []⟩ (Value.ref (hp.objs.size + 1) :: us) _ _ (fun _ _ _ => False) (hr.make C us) (I2.env0.make C us []) bd r2 hq) fun r s' hq' => ?_))
  cases r with
  | error er => exact hx pins σ _ _ er s' I2 hq'
  | ok fl =>
    cases fl with
    | ret u =>
      obtain ⟨v, H2, os2, bare2, un2, hok2, rv, ev, d, fs, ea, ed, hd1, q2⟩ := hq'
      subst ev
      obtain ⟨h2, g2, d2, t2, os'⟩ := s'
      exact ⟨rv, mk_end (raises_own T.exC T.tyC) I1 hsz kk un2 hok2 os2 bare2 ea ed hd1 q2⟩
    | next => exact False.elim hq'
    | brk => exact False.elim hq'
    | cont => exact False.elim hq'
def ErrI (P : Program) (w : World) (K : PySem.W.Frag) (mg : Str → Option Value) (base : Heap) (x : Str) (k : Nat) : Prop := ∃ (C fI : Addr) (fd : FuncData) (arg f : Str), OexC K C ∧ PySem.W.findIn K (.ref C) "__init__" = some (some (.ref fI)) ∧ PySem.W.typeIn K (.ref fI) = some (.type "function") ∧
  Fnn P w K mg base CX0 k fI fd ["self", arg] (spEI K C f) ∧ Binds K fd ["self", arg] [] ∧ mg x = some (.ref C) ∧ PySem.W.nsIn K mainGlobals x = some (some (.ref C)) ∧ fldOf x = some f
theorem Good.extra [Gh : Ghost] {K : PySem.W.Frag} {W F : Hp} {A : List Addr} {m : M} {σ : L2.St} {H : Hp} {b : Addr} {o : HO} (G : Good K W F A m σ H) (n : H b = none) : Good K W F A m σ (upd H b o) := by
  refine ⟨G.ext.trans (same_upd n), G.hid.trans (same_upd n), G.dj, G.slen, G.sl, G.len, fun k xs e => ?_, G.nd, fun q hq => ⟨tab_upd (G.tb q hq).1 n, (G.tb q hq).2⟩, G.gh⟩
  obtain ⟨a, vs, h1, h2, h3⟩ := G.st k xs e
  exact ⟨a, vs, h1, by rw [upd_ne (ne_of_none h2 n)]; exact h2, h3⟩
section
variable {X : Cx} {Wx : WX} {pos : Pos}
def xRaise (x : Str) (t : DEO) : DSO := fun Ex E m os => t Ex m os fun v m1 os1 => match v with
  | .d (.int i) => i.natAbs.log2 < 1920 ∧ Ex x (.int i) m1 os1
  | _ => False
theorem so_raise {j k : Nat} {x : Str} {e : Expr} {te : DEO} {p p2 : Pos} (E0 : ErrI X.prog X.w X.K X.mg X.base x j) (hr : GRoom k X.A) (hc : X.calm = true) (tk : Takes X Wx) (hg : Gl X x) (he : JEO X Wx e te) (hj : j + 1 ≤ k := by decide) (hdb : (x == ("__debug__" : Str)) = false := by decide)
    (hst : starEach [e] X.env = (false, eval e X.env) :: starEach [] X.env := by rfl) : JSO X Wx (.Raise (some (.Call (.Name x p) [e] [] p2)) none pos) (xRaise x te) := by
  obtain ⟨C, fI, fd, arg, f, T, iC, tI, F1, hb, hm, hns, hf⟩ := E0
  refine (ps_raise hc tk (pmk_oexN T iC tI F1 (hr.mono hj) hb pass0 hg hm (pa_cons he pa_nil hst) hdb hst rfl)).imp fun D σ H hh => ?_
  obtain ⟨W, F, A, m, os, W', E, Ex, G, h, c, cx⟩ := hh
  show liftEO X.K Wx te σ H _
  refine ⟨W, F, A, m, os, W', _, Ex, G, h, fun F1 A1 v m1 os1 H1 W1 s1 p1 G1 q1 u r1 => ⟨by show 1 ≤ 1000; decide, fun a na => ?_⟩, cx⟩
  cases v with
  | c k => exact (show False from q1).elim
  | d x' =>
    cases x' with
    | int i =>
      obtain ⟨hi, q1⟩ := q1
      have eu : u = .int i := by
        have r1' : Rep X.K F1 (.int i) u := r1
        simpa only [Rep] using r1'
      subst eu
      refine ⟨a, i, rfl, hi, upd_same, fun dx nx ne => ⟨rfl, dx, [(f, .int i)], ?_, ?_, ?_, ?_⟩⟩
      · exact upd_same
      · rw [upd_ne ne, upd_same]
      · rw [upd_ne ne] at nx
        exact nx
      · have nd : H1 dx = none := by
          rw [upd_ne ne] at nx
          exact nx
        have eH : upd (del (upd (upd (upd H1 a (exo a C none)) dx (exd dx [(f, .int i)])) a (exo a C (some dx))) a) dx (.xd [(f, .int i)]) = upd H1 dx (.xd [(f, .int i)]) := by
          funext b
          by_cases hb : b = dx
          · rw [hb, upd_same, upd_same]
          · rw [upd_ne hb, upd_ne hb]
            by_cases hba : b = a
            · rw [hba, del_same, na]
            · rw [del_ne hba, upd_ne hba, upd_ne hb, upd_ne hba]
        rw [eH]
        have wn : W1 dx = none := by
          obtain ⟨_, _, g⟩ := G1
          obtain ⟨_, hid, _⟩ := g
          exact hid.free nd
        have fn : F1 dx = none := by
          obtain ⟨_, _, g⟩ := G1
          obtain ⟨ext, _⟩ := g
          exact ext.free nd
        refine cx F1 A1 m1 os1 σ _ W1 x (.int i) _ (some dx) s1 p1 ⟨G1.sW, G1.out, @Good.extra (gho X.K os1) _ _ _ _ _ _ _ _ _ G1.G nd⟩ ?_ hns q1
        unfold XFld
        rw [hf]
        exact ⟨dx, .int i, rfl, upd_same, rep_int, fn, wn⟩
    | _ => exact (show False from q1).elim
def xRaise0 (x : Str) : DSO := fun Ex E m os => Ex x .non m os
theorem so_raise0 {x : Str} {p p2 : Pos} (E0 : ExcG X.K X.mg x) (hf : fldOf x = none) (hc : X.calm = true) (tk : Takes X Wx) (hg : Gl X x) (hdb : (x == ("__debug__" : Str)) = false := by decide) :
    JSO X Wx (.Raise (some (.Call (.Name x p) [] [] p2)) none pos) (xRaise0 x) := by
  obtain ⟨C, f, gC⟩ := E0
  refine (ps_raise hc tk (pmk_own0 PySem.F.excBase_ValueError f.ex gC f.kp (raises_own f.sub f.ty) hg hdb)).imp fun D σ H hh => ?_
  obtain ⟨W, F, A, m, os, W', E, Ex, G, h, c, cx⟩ := hh
  refine cx F A m os σ H W' x .non _ none (Same.refl _) (pre_refl _) G ?_ f.at_ h
  unfold XFld
  rw [hf]

abbrev XSu := Addr → Addr → OS → DS
theorem Good.ptr [Gh : Ghost] {K : PySem.W.Frag} {W F : Hp} {A : List Addr} {m : M} {σ : L2.St} {H : Hp} (a : Addr) (G : Good K W F A m σ H) : Good K W F (A ++ [a]) ⟨m.sl, m.st ++ [.dead]⟩ σ H := by
  have pr : A <+: A ++ [a] := ⟨[a], rfl⟩
  have old : ∀ k xs, (m.st ++ [Cell.dead])[k]? = some (.lst xs) → k < m.st.length ∧ m.st[k]? = some (.lst xs) := fun k xs e => by
    by_cases hk : k < m.st.length
    · rw [List.getElem?_append_left hk] at e
      exact ⟨hk, e⟩
    · have hl := (List.getElem?_eq_some_iff.mp e).1
      rw [List.length_append, List.length_singleton] at hl
      have ek : k = m.st.length := by omega
      subst ek
      rw [List.getElem?_append_right (Nat.le_refl _), Nat.sub_self] at e
      cases e
  have at_ : ∀ k, k < m.st.length → (A ++ [a])[k]? = A[k]? := fun k hk => List.getElem?_append_left (by rw [G.len]; exact hk)
  refine ⟨G.ext, G.hid, G.dj, G.slen, fun i v e => ?_, by simp [G.len], fun k xs e => ?_, fun j k xs ys b e1 e2 h1 h2 => ?_, G.tb, Ghost.mono G.gh (SameO.refl _) (Same.refl _) pr⟩
  · obtain ⟨u, h1, h2⟩ := G.sl i v e
    exact ⟨u, h1, RepV.mono (Same.refl _) pr h2⟩
  · obtain ⟨hk, e⟩ := old k xs e
    obtain ⟨b, vs, h1, h2⟩ := G.st k xs e
    exact ⟨b, vs, (at_ k hk).trans h1, h2⟩
  · obtain ⟨hj, e1⟩ := old j xs e1
    obtain ⟨hk, e2⟩ := old k ys e2
    exact G.nd j k xs ys b e1 e2 ((at_ j hj).symm.trans h1) ((at_ k hk).symm.trans h2)
theorem Good.addW [Gh : Ghost] {K : PySem.W.Frag} {W F : Hp} {A : List Addr} {m : M} {σ : L2.St} {H : Hp} {b : Addr} {fs : List (Str × V)} (G : Good K W F A m σ H) (h : H b = some (.xd fs)) (nF : F b = none) (nW : W b = none) : Good K (upd W b (.xd fs)) F A m σ H := by
  refine ⟨G.ext, fun c o e => ?_, fun c o e => ?_, G.slen, G.sl, G.len, fun k xs e => ?_, G.nd, fun q hq => ?_, Ghost.mono G.gh (SameO.of (same_upd nW)) (Same.refl _) (pre_refl _)⟩
  · by_cases hc : c = b
    · rw [hc, upd_same] at e
      cases e
      rw [hc]
      exact h
    · rw [upd_ne hc] at e
      exact G.hid c o e
  · by_cases hc : c = b
    · rw [hc]
      exact nF
    · rw [upd_ne hc] at e
      exact G.dj c o e
  · obtain ⟨a, vs, h1, h2, h3, h4, h5⟩ := G.st k xs e
    have ne : a ≠ b := fun z => by rw [z, h] at h2; cases h2
    exact ⟨a, vs, h1, h2, h3, h4, by rw [upd_ne ne]; exact h5⟩
  · obtain ⟨⟨ps, t1, ok⟩, t2, t3⟩ := G.tb q hq
    have ne : q.2 ≠ b := fun z => by rw [z, h] at t1; cases t1
    exact ⟨⟨ps, t1, ok⟩, t2, by rw [upd_ne ne]; exact t3⟩
theorem Good.unset [Gh : Ghost] {K : PySem.W.Frag} {W F : Hp} {A : List Addr} {m : M} {σ : L2.St} {H : Hp} (G : Good K W F A m σ H) (i : Nat) : Good K W F A ⟨m.sl.set i none, m.st⟩ (σ.set i none) H := G.wipe [i]
theorem GoodO.unsuite {K : PySem.W.Frag} {W F1 F2 : Hp} {A1 A2 : List Addr} {m1 m2 : M} {os1 os2 : OS} {σ1 σ2 : L2.St} {H1 H2 W1 W2 : Hp} (G1 : GoodO K W F1 A1 m1 os1 σ1 H1 W1) (sW : Same W1 W2) (s : Same F1 F2) (p : A1 <+: A2) (G2 : @Good (gho K os2) K W2 F2 A2 m2 σ2 H2) (i : Nat) :
    GoodO K W F2 A2 ⟨m2.sl.set i none, m2.st⟩ os1 (σ2.set i none) H2 W2 :=
  ⟨G1.sW.trans sW, fun k c fs a e h => by
    obtain ⟨a0, _, _, _, g1, _⟩ := (Good.ghp G1.G).ob k c fs e
    have := pre_get p g1
    rw [h] at this
    cases this
    exact G1.out k c fs a e g1, (@Good.unset (gho K os2) _ _ _ _ _ _ _ G2 i).regh (OsOk.mono (Good.ghp G1.G) (SameO.of sW) s p)⟩
end
end RT

set_option maxRecDepth 100000
set_option maxHeartbeats 4000000

namespace RT
open PySem PySem.Spec PySem.Calls PyProof.Rows L2 PySem.W
section
variable {prog : Program} {w : World} {A : Around} {E : Value → Shared → Prop} {s : Shared} {K : Frag} {x D : Addr} {ox : Obj} {od : Option Obj}
end
end RT

set_option maxRecDepth 100000
set_option maxHeartbeats 4000000

namespace RT
open PySem PySem.Spec PyProof.Rows L2
def ExcU (K : PySem.W.Frag) (x : Str) : Prop := ∃ D, PySem.W.nsIn K mainGlobals x = some (some (.ref D)) ∧ ExcC K D ∧ ∀ f, fldOf x = some f → PySem.W.findIn K (.ref D) f = some none
def exuB (K : PySem.W.Frag) (x : Str) : Bool := match PySem.W.nsIn K mainGlobals x with
  | some (some (.ref C)) => ((PySem.W.findIn K (.ref C) "__getattribute__" == some (some (.builtin "BaseException.__getattribute__"))) && ((PySem.W.findIn K (.ref C) "__getattr__" == some none) && ((PySem.W.subIn K (.ref C) (.type "BaseException") == some true) && (PySem.W.hasDictIn K C && ((PySem.W.findIn K (.ref C) "__class__" == some (some (.builtin "object.__class__"))) &&
      ((PySem.W.specialIn K (.builtin "object.__class__") "__get__" == some (some (.builtin "getset_descriptor.__get__"))) && ((PySem.W.takesIn K (.builtin "object.__class__") == some true) && ((PySem.W.mroIn K C (.type "object") == some true) && (match fldOf x with
        | some f => PySem.W.findIn K (.ref C) f == some none
        | none => true)))))))))
  | _ => false
theorem exu_of {K : PySem.W.Frag} {x : Str} (h : exuB K x = true) : ExcU K x := by
  unfold exuB at h
  split at h
  · rename_i C e
    simp only [Bool.and_eq_true, beq_iff_eq] at h
    obtain ⟨h1, h2, h3, h4, h5, h6, h7, h8, h9⟩ := h
    refine ⟨C, e, ⟨h1, h2, h3, h4, h5, h6, h7, h8⟩, fun f hf => ?_⟩
    rw [hf] at h9
    exact beq_iff_eq.mp h9
  · cases h
def dXf (os : OS) (i : Nat) (x : Str) (a bd : Addr) : DE := fun m Q => ∃ k d f, m.sl[i]? = some (some (.c k)) ∧ os.lookup k = some (.exc a (some (bd, f)) d) ∧ fldOf x = some f ∧ Q (.d d) m
section
variable {X : Cx} {os : OS} {i : Nat} {x n y : Str} {a bd : Addr} {oe : Obj} {pn : List (Addr × Obj)} {v : Value} {b : Bool} {p p1 p2 pos : Pos}
theorem xslot {K : PySem.W.Frag} {W F : Hp} {A : List Addr} {m : M} {σ : L2.St} {H : Hp} {k : Nat} {dd : Option (Addr × Str)} {d : Dt} (G : @Good (gho K os) K W F A m σ H) (hs : m.sl[i]? = some (some (.c k))) (ho : os.lookup k = some (.exc a dd d)) :
    σ[i]? = some (some (.ref a)) ∧ ∀ b f, dd = some (b, f) → ∃ u, H b = some (.xd [(f, u)]) ∧ Rep K F d u := by
  obtain ⟨h1, h2⟩ := (Good.ghp G).ex k a dd d ho
  obtain ⟨_, hid, _, _, sl, _⟩ := G
  obtain ⟨u, hu, a', ha', rfl⟩ := sl i _ hs
  rw [h1] at ha'
  cases ha'
  refine ⟨hu, fun b f z => ?_⟩
  obtain ⟨u, h3, h4⟩ := h2 b f z
  exact ⟨u, hid _ _ h3, h4⟩
theorem je_xf {f : Str} (E : ExcU X.K x) (hv : PySem.W.nsIn X.K mainGlobals x = some (some v)) (hz : Zc v ((fldOf x).map fun _ => bd) oe) (hf : ∃ vs, oe.data = .fields vs) (hfx : fldOf x = some f) (hN : X.N[i]? = some n) (hvs : Vis X.env.scope n)
    (n1 : (n == ("__debug__" : Str)) = false := by decide) (n2 : (n == ("__classdict__" : Str)) = false := by decide) (hb : attributeBase (.Name n p) f X.env (eval (.Name n p) X.env) = eval (.Name n p) X.env := by rfl) :
    @JE (gho X.K os) (X.suite a ((a, oe) :: pn)) (.Attribute (.Name n p) f pos) (dXf os i x a bd) := by
  obtain ⟨D, hD, C, hno⟩ := E
  rw [hD] at hv
  cases hv
  refine (pe_xf (X := X) (a := a) (pn := pn) ⟨C.hg, C.hk, C.hs, C.hd⟩ (hno f hfx) hz hf (pe_var (X := X.suite a ((a, oe) :: pn)) hN hvs n1 n2) hb).imp fun σ H Q hh => ?_
  letI : Ghost := gho X.K os
  obtain ⟨W, F, A, m, Qd, G, ⟨k, d, f', hs, ho, hf', q⟩, c⟩ := hh
  rw [hfx] at hf'
  cases hf'
  obtain ⟨h1, h2⟩ := xslot G hs ho
  obtain ⟨u, hu, ru⟩ := h2 bd f rfl
  refine ⟨_, h1, rfl, rfl, bd, [(f, u)], u, by rw [hfx]; rfl, hu, by simp [List.lookup], c F A _ m H (Same.refl _) (pre_refl _) G q _ ru⟩
theorem SlotOk.su {X : Cx} {i : Nat} {x : Str} (s : SlotOk X i x) (a : Addr) (pn : List (Addr × Obj)) : SlotOk (X.suite a pn) i x := ⟨s.hN, s.hl, s.nd, s.nc, s.hf⟩
theorem SlotOk.tr {X : Cx} {i : Nat} {x : Str} (s : SlotOk X i x) (pn : List (Addr × Obj)) (xe : Value → Shared → Prop) : SlotOk (X.tr pn xe) i x := ⟨s.hN, s.hl, s.nd, s.nc, s.hf⟩
end
end RT

set_option maxRecDepth 100000
set_option maxHeartbeats 4000000

namespace RT
open PySem PySem.Spec PyProof.Rows L2 NdefX
abbrev MtW : Type := Option (Str × Str × Arguments × FuncBody × Scope)
def clA (K : PySem.W.Frag) (x : Str) : Addr := He.ga K x
def inA (K : PySem.W.Frag) (x : Str) : Addr := He.ma K (He.ga K x) "__init__"
def mtW (K : PySem.W.Frag) (x : Str) : MtW := match K.lookup (inA K x) with
  | some ⟨_, _, .func fd, _⟩ => some (fd.name, fd.qualname, fd.params, fd.body, fd.scope)
  | _ => none
structure ErD where
  x : Str
  f : Str
  qual : Str
  params : Arguments
  body : List Stmt
  scope : Scope
def ErD.val (d : ErD) : MtW := some ("__init__", d.qual, d.params, .stmts d.body, d.scope)
def celB (K : PySem.W.Frag) (cc C : Addr) : Bool := match K.lookup cc with
  | some ⟨_, _, .cell (some (.ref D)), _⟩ => decide (D = C)
  | _ => false
def filB (K : PySem.W.Frag) (c : Addr) (file : Str) : Bool := match K.lookup c with
  | some ⟨_, _, .fields vs, _⟩ => (match (vs[2]? : Option Value) with
    | some (Value.str fl _) => file == fl
    | _ => false)
  | _ => false
def clsB (K : PySem.W.Frag) (C : Addr) : Bool := match K.lookup C with
  | some ⟨.type t, _, .cls cd, sl⟩ => decide (t = "type") && (match cd.mro, sl.toList with
    | .ref C' :: bm, [_, _, _, _, some (.builtin n), _] => decide (C' = C) && (decide (n = "ValueError.__new__") && (!cd.hasDel && (cd.hasDict && PySem.HandSPX.refsVE bm)))
    | _, _ => false)
  | _ => false
def iniB (K : PySem.W.Frag) (file : Str) (C fI : Addr) (q : Str) : Bool := match K.lookup fI with
  | some ⟨_, _, .func fd, _⟩ => (decide (fd.globals = mainGlobals) && (decide (fd.builtins = builtinsNs) && ((match fd.defaults with | .none => true | _ => false) && (match fd.kwdefaults with | .none => true | _ => false)))) && (match fd.code, fd.closure with
    | .ref c, [(y, cc)] => decide (y = "__class__") && (PySem.W.codeIn K (.ref c) q && (celB K cc C && filB K c file))
    | _, _ => false)
  | _ => false
def einB (K : PySem.W.Frag) (file : Str) (d : ErD) : Bool :=
  He.eqO (PySem.W.nsIn K mainGlobals d.x) (some (some (.ref (clA K d.x)))) && (He.eqO (PySem.W.findIn K (.ref (clA K d.x)) "__init__") (some (some (.ref (inA K d.x)))) && (decide (PySem.W.typeIn K (.ref (inA K d.x)) = some (.type "function")) && (clsB K (clA K d.x) &&
    (iniB K file (clA K d.x) (inA K d.x) d.qual && (He.eqO (PySem.W.findIn K (.ref (clA K d.x)) "__setattr__") (some (some (.builtin "object.__setattr__"))) && (decide (PySem.W.subIn K (.ref (clA K d.x)) (.type "BaseException") = some true) && (decide (PySem.W.typeIn K (.ref (clA K d.x)) = some (.type "type")) && (PySem.W.keepIn K (.ref (clA K d.x)) &&
      (He.eqO (PySem.W.ks_superIn K (clA K d.x) (clA K d.x) "__init__") (some (some (.builtin "ValueError.__init__"))) && (decide (PySem.W.mroIn K (clA K d.x) (.ref (clA K d.x)) = some true) && (decide (PySem.W.subIn K (.ref (clA K d.x)) (.type "ValueError") = some true) && (He.eqO (PySem.W.nsIn K cStatics "thirdparty.any") (some none) && He.eqO (PySem.W.findIn K (.ref (clA K d.x)) d.f) (some none)))))))))))))
theorem clsB_ok {K : PySem.W.Frag} {C : Addr} (h : clsB K C = true) : ∃ nm q N bs bm sn sub ab col dd k0 k1 k2 k3 k5, K.lookup C = some (excClassObj nm q C N bs bm true sn sub ab col dd k0 k1 k2 k3 k5 "ValueError.__new__") ∧ PySem.HandSPX.refsVE bm = true := by
  unfold clsB at h
  split at h
  · rename_i t dd cd sl ho
    obtain ⟨h1, h2⟩ := band h
    split at h2
    · rename_i C' bm k0 k1 k2 k3 n k5 hm hs
      obtain ⟨a1, h2⟩ := band h2
      obtain ⟨a2, h2⟩ := band h2
      obtain ⟨a3, h2⟩ := band h2
      obtain ⟨a4, a5⟩ := band h2
      obtain ⟨nm, bs, mro, ns, qn, hd, sn, sub, ab, col, del⟩ := cd
      have b1 := of_decide_eq_true h1
      have b2 := of_decide_eq_true a1
      have b3 := of_decide_eq_true a2
      dsimp only at hm a3 a4
      have b4 : del = false := by simpa using a3
      subst b1 b2 b3 hm b4 a4
      have hsl : sl = #[k0, k1, k2, k3, some (.builtin "ValueError.__new__"), k5] := by
        obtain ⟨l⟩ := sl
        simp only at hs
        rw [hs]
      subst hsl
      exact ⟨nm, qn, ns, bs, bm, sn, sub, ab, col, dd, k0, k1, k2, k3, k5, ho, a5⟩
    · cases h2
  · cases h
structure PrgOk (P : Program) (file : Str) : Prop where
  file : P.main.file = file
  top : (P.main.scope.names.lookup ("super" : Str)).isSome = false
theorem celB_ok {K : PySem.W.Frag} {cc C : Addr} (h : celB K cc C = true) : ∃ c d s, K.lookup cc = some ⟨c, d, .cell (some (.ref C)), s⟩ := by
  unfold celB at h
  split at h
  · rename_i c d D s e
    have := of_decide_eq_true h
    subst this
    exact ⟨c, d, s, e⟩
  · cases h
theorem filB_ok {K : PySem.W.Frag} {c : Addr} {file : Str} (h : filB K c file = true) : ∃ (c' : Value) (d : Option Addr) (vs : Array Value) (s : Array (Option Value)) (fl : Str) (t : Tok), K.lookup c = some ⟨c', d, .fields vs, s⟩ ∧ vs[2]? = some (.str fl t) ∧ (file == fl) = true := by
  unfold filB at h
  split at h
  · rename_i c' d vs s e
    split at h
    · rename_i fl t e2
      exact ⟨c', d, vs, s, fl, t, e, e2, h⟩
    · cases h
  · cases h
theorem eini_of {P : Program} {K : PySem.W.Frag} {d : ErD} {file arg : Str} {e : Expr} (hp : PrgOk P file) (h : einB K file d = true) (hw : mtW K d.x = d.val) (hd : (d.params.posonlyargs ++ d.params.args).head?.map (·.arg) = some ("self" : Str)) :
    ∃ (cc c : Addr) (oc : Value) (od : Option Addr) (doc pm : Value) (an : Option Addr) (ct : Value) (osl : Array (Option Value)), EIni P K (clA K d.x) (inA K d.x) cc ⟨"__init__", d.qual, d.params, d.body, d.scope, [("__class__", cc)], c⟩ arg d.f e ∧
      K.lookup (inA K d.x) = some ⟨oc, od, .func (PySem.W.fnX "__init__" d.qual d.params d.body d.scope [("__class__", cc)] .none .none doc pm an (.ref c) ct), osl⟩ ∧ PySem.W.nsIn K mainGlobals d.x = some (some (.ref (clA K d.x))) ∧
      PySem.W.findIn K (.ref (clA K d.x)) "__init__" = some (some (.ref (inA K d.x))) ∧ PySem.W.typeIn K (.ref (inA K d.x)) = some (.type "function") := by
  unfold einB at h
  obtain ⟨h1, h⟩ := band h
  obtain ⟨h2, h⟩ := band h
  obtain ⟨h3, h⟩ := band h
  obtain ⟨h4, h⟩ := band h
  obtain ⟨h5, h⟩ := band h
  obtain ⟨h6, h⟩ := band h
  obtain ⟨h7, h⟩ := band h
  obtain ⟨h8, h⟩ := band h
  obtain ⟨h9, h⟩ := band h
  obtain ⟨h10, h⟩ := band h
  obtain ⟨h11, h⟩ := band h
  obtain ⟨h12, h⟩ := band h
  obtain ⟨h13, h14⟩ := band h
  unfold iniB at h5
  unfold mtW at hw
  split at h5
  · rename_i oc od fd osl lk
    rw [lk] at hw
    obtain ⟨a1, a2⟩ := band h5
    obtain ⟨a3, a4⟩ := band a1
    obtain ⟨a5, a6⟩ := band a4
    obtain ⟨a7, a8⟩ := band a6
    obtain ⟨n1, n2, n3, n4, n5, n6, n7, n8, n9, n10, n11, n12, n13, n14, n15⟩ := fd
    dsimp only at a2 a3 a5 a7 a8 hw
    split at a2
    · rename_i c y cc
      obtain ⟨b1, b2⟩ := band a2
      obtain ⟨b3, b4⟩ := band b2
      obtain ⟨b5, b6⟩ := band b4
      have c1 := of_decide_eq_true a3
      have c2 := of_decide_eq_true a5
      have c3 := of_decide_eq_true b1
      unfold ErD.val at hw
      simp only [Option.some.injEq, Prod.mk.injEq] at hw
      obtain ⟨w1, w2, w3, w4, w5⟩ := hw
      have c4 : n8 = .none := by
        cases n8 with
        | none => rfl
        | _ => cases a7
      have c5 : n9 = .none := by
        cases n9 with
        | none => rfl
        | _ => cases a8
      subst c1 c2 c3 w1 w2 w3 w4 w5 c4 c5
      obtain ⟨g1, g2, g3, g4⟩ := celB_ok b5
      refine ⟨cc, c, oc, od, n10, n11, n12, n14, osl, ⟨⟨clsB_ok h4, He.eqO_ok h6, of_decide_eq_true h7, of_decide_eq_true h8, h9⟩, ⟨oc, od, .none, .none, n10, n11, n12, n14, osl, lk⟩, b3, rfl, ⟨g1, g2, g3, g4⟩, ?_, of_decide_eq_true h11, of_decide_eq_true h12, He.eqO_ok h13, He.eqO_ok h14, ?_, hd, hp.top⟩, lk, He.eqO_ok h1, He.eqO_ok h2, of_decide_eq_true h3⟩
      · have e := He.eqO_ok h10
        cases q : PySem.W.clsIn K (clA K d.x) with
        | none =>
          unfold PySem.W.ks_superIn at e
          rw [q] at e
          cases e
        | some cd => exact ⟨cd, rfl, e⟩
      · rw [hp.file]
        exact filB_ok b6
    · cases a2
  · cases h5
theorem jlen {a b : Str} {m n : Nat} (h1 : a.length ≤ m) (h2 : b.length ≤ n) : (a ++ b).length ≤ m + n := by
  rw [Str.length_append]
  omega
theorem ilen {i : Int} (h : i.natAbs.log2 < 1920) : (Str.ofString (toString i)).length ≤ 1921 := by
  rw [PySem.ofString_length]
  exact int_text_length_le (by decide) h
theorem ha2 {arg : Str} {s : Str} {j : Nat} {p1 p2 p3 p4 : Pos} (hd1 : (arg == ("__debug__" : Str)) = false) (hd2 : (arg == ("__classdict__" : Str)) = false) (hs : s.length ≤ 100) :
    ∀ X : Cx, X.N[1]? = some arg → Vis X.env.scope arg → ∃ ta : TA, PA X [.JoinedStr [.Constant (.str s) j p1, .FormattedValue (.Name arg p2) (-1) none p3] p4] ta ∧ ∀ (σ : L2.St) (H : Hp) (i : Int) (Q : List V → Hp → Prop), σ[1]? = some (some (.int i)) → i.natAbs.log2 < 1920 → (∀ v, Q [v] H) → ta σ H Q := by
  intro X hN hv
  refine ⟨_, pa_cons (pe_joined (.cons pe_str (.cons (pe_fmt (pe_var hN hv hd1 hd2)) .nil))) pa_nil (by rfl), fun σ H i Q h0 hi q => ?_⟩
  have l1 : (Str.empty ++ s).length ≤ 0 + 100 := jlen (Nat.le_refl _) hs
  refine ⟨s, rfl, ?_, ⟨_, h0, .inr ⟨i, rfl, hi, ⟨_, rfl, ?_, ?_⟩⟩⟩⟩
  · rw [sizeLine_eq]
    omega
  · have := jlen l1 (ilen hi)
    rw [sizeLine_eq]
    exact Nat.le_trans this (by decide)
  · exact q _
theorem errI_of {P : Program} {w : World} {K : PySem.W.Frag} {mg : Str → Option Value} {base : Heap} {d : ErD} {file arg : Str} {vs : List Expr} {pj p0 p1 apos cpos epos sp fp np ap : Pos} (KX : K.In base) (GX : base.Ns mainGlobals mg) (hp : PrgOk P file) (h : einB K file d = true) (hw : mtW K d.x = d.val) (hgl : mg "super" = none) (hf : fldOf d.x = some d.f)
    (hd : (d.params.posonlyargs ++ d.params.args).head?.map (·.arg) = some ("self" : Str)) (S : NScope [("self" : Str), arg, "__class__"] ["self", arg] ["__class__"] d.scope) (hbody : d.body = eiBody arg d.f (.JoinedStr vs pj) p0 p1 apos cpos epos sp fp np ap) (hsu : d.scope.names.lookup ("super" : Str) = some .globalImplicit)
    (hd1 : (arg == ("__debug__" : Str)) = false) (hd2 : (arg == ("__classdict__" : Str)) = false)
    (hev : ∀ env : Env, ∃ pl, eval (.Call (.Attribute (.Call (.Name "super" p0) [] [] p1) "__init__" apos) [.JoinedStr vs pj] [] cpos) env = (do
      let ov ← attributeBase (.Call (.Name "super" p0) [] [] p1) "__init__" env (eval (.Call (.Name "super" p0) [] [] p1) env)
      standAt apos.atName
      let (f, first) ← holding [ov] (getMethod ov "__init__" pl)
      callWith cpos f first (backTo cpos (starEach [.JoinedStr vs pj] env)) []))
    (hb : ∀ (cl : List (Str × Addr)) (doc pm : Value) (an : Option Addr) (cdv ct : Value) (us : List Value), us.length = 2 → bindArgs (PySem.W.fnX "__init__" d.qual d.params d.body d.scope cl .none .none doc pm an cdv ct) ⟨us, []⟩ = pure ([("self" : Str), arg].zip us))
    (ha : ∀ X : Cx, X.N[1]? = some arg → Vis X.env.scope arg → ∃ ta : TA, PA X [.JoinedStr vs pj] ta ∧ ∀ (σ : L2.St) (H : Hp) (i : Int) (Q : List V → Hp → Prop), σ[1]? = some (some (.int i)) → i.natAbs.log2 < 1920 → (∀ v, Q [v] H) → ta σ H Q) : ErrI P w K mg base d.x 1 := by
  obtain ⟨cc, c, oc, od, doc, pm, an, ct, osl, T, lk, n1, n2, n3⟩ := eini_of (arg := arg) (e := .JoinedStr vs pj) hp h hw hd
  refine ⟨clA K d.x, inA K d.x, _, arg, d.f, T.oex, n2, n3, fnn_einit (k := 0) (N := [("self" : Str), arg, "__class__"]) T S hbody hsu hgl rfl rfl hd1 hd2 hev (fun env => rfl) ?_ ?_ ?_ ha ⟨oc, od, osl, lk⟩, .all fun us hl => hb _ _ _ _ _ _ us hl, PySem.W.mg_of KX GX n1, n1, hf⟩
  · exact fun env => rfl
  · exact fun env => rfl
  · intro env hk
    unfold interactive
    rw [hk]
    rfl
end RT

set_option maxRecDepth 100000
set_option maxHeartbeats 4000000

namespace RT
open PySem PySem.Spec PyProof.Rows L2
def spUp (sp : FSpec) : FSpecO := fun args st os Q _ => sp args st fun r st' => Q r st' os
theorem fn_up {P : Program} {w : World} {K : PySem.W.Frag} {mg : Str → Option Value} {base : Heap} {k : Nat} {f : Addr} {fd : FuncData} {ps : List Str} {sp : FSpec} (F : Fnn P w K mg base CX0 k f fd ps (liftSp K sp)) : Fnn P w K mg base (L2.CX P w) k f fd ps (liftSpO K (spUp sp)) := by
  have up : ∀ vs H Q (E : XK), liftSpO K (spUp sp) vs H Q E → liftSp K sp vs H Q (fun _ _ _ => False) := fun vs H Q E h => by
    obtain ⟨W, F1, A, st, os, W', args, Qd, Ex, G, r, q, c, cx⟩ := h
    refine ⟨W', F1, A, st, args, _, @Good.regh (gho K os) Ghost.tt _ _ _ _ _ _ _ G.G True.intro, r, q, fun F' A' st' H' r u s' p' G' r' q' => ?_⟩
    exact c F' A' st' os H' W' r u s' p' (G.next p' (@Good.regh Ghost.tt (gho K os) _ _ _ _ _ _ _ G' (OsOk.mono (Good.ghp G.G) (SameO.refl _) s' p'))) r' q'
  refine ⟨fun vs H Q E h => F.len vs H Q _ (up vs H Q E h), fun A outer s H args us vs Q E hr e0 hb r h => codeAny_mono (F.run A outer s H args us vs Q _ hr e0 hb r (up vs H Q E h)) fun r s' z => ?_⟩
  cases r with
  | ok v => cases v <;> exact z
  | error e => exact False.elim z
theorem FnG.up {P : Program} {w : World} {K : PySem.W.Frag} {mg : Str → Option Value} {base : Heap} {x : Str} {k : Nat} {sp : FSpec} (F : FnG P w K mg base x k sp []) : FnO P w K mg base x k (spUp sp) := by
  obtain ⟨f, fd, ps, ds, dvs, F, hm, hk, hb, hv, hr⟩ := F
  have e1 : dvs = [] := by
    have := hr (fun _ => none) []
    simpa only [RepVs] using this
  subst e1
  cases hv
  exact ⟨f, fd, ps, fn_up F, hm, hk, hb⟩
theorem ExmG.at {K : PySem.W.Frag} {mg : Str → Option Value} {x y : Str} {cy : Value} (E : ExmG K mg x y) (h : mg y = some cy) : ∀ v, PySem.W.nsIn K mainGlobals x = some (some v) → PySem.W.exmOne K v cy = some true := by
  obtain ⟨c2, h2, k⟩ := E
  rw [h] at h2
  cases h2
  exact k

section
variable {X : Cx} [Gh : Ghost]
end

theorem el_at {K : PySem.W.Frag} {el : List ErD} (h : el.map (fun d => mtW K d.x) = el.map ErD.val) (i : Nat) {d : ErD} (e : el[i]? = some d := by rfl) : mtW K d.x = d.val := by
  have e2 : (el.map fun d => mtW K d.x)[i]? = (el.map ErD.val)[i]? := by rw [h]
  rw [List.getElem?_map, List.getElem?_map, e] at e2
  exact Option.some.inj e2
end RT

set_option maxRecDepth 100000
set_option maxHeartbeats 4000000

namespace RT
open PySem PySem.Spec PyProof.Rows L2

def putV (f : Str) (v : Vl) : List (Str × Vl) → List (Str × Vl)
  | [] => [(f, v)]
  | (g, x) :: r => if g = f then (g, v) :: r else (g, x) :: putV f v r
def setO : OS → Nat → OCell → OS
  | [], k, o => [(k, o)]
  | (j, x) :: r, k, o => if j = k then (k, o) :: r else (j, x) :: setO r k o
theorem lookup_putV (f g : Str) (v : Vl) : ∀ fs : List (Str × Vl), (putV f v fs).lookup g = if g = f then some v else fs.lookup g
  | [] => by
    by_cases h : g = f
    · subst h
      simp [putV, List.lookup]
    · simp [putV, List.lookup, h, beq_eq_false_iff_ne.mpr h]
  | (k, x) :: r => by
    have ih := lookup_putV f g v r
    unfold putV
    by_cases hk : k = f
    · subst hk
      rw [if_pos rfl]
      by_cases h : g = k
      · subst h
        simp [List.lookup]
      · simp [List.lookup, h, beq_eq_false_iff_ne.mpr h]
    · rw [if_neg hk]
      by_cases h : g = k
      · subst h
        simp [List.lookup, hk]
      · simp [List.lookup, beq_eq_false_iff_ne.mpr h, ih]
theorem lookup_setO (k j : Nat) (o : OCell) : ∀ os : OS, (setO os k o).lookup j = if j = k then some o else os.lookup j
  | [] => by
    by_cases h : j = k
    · subst h
      simp [setO, List.lookup]
    · simp [setO, List.lookup, h, beq_eq_false_iff_ne.mpr h]
  | (i, x) :: r => by
    have ih := lookup_setO k j o r
    unfold setO
    by_cases hk : i = k
    · subst hk
      rw [if_pos rfl]
      by_cases h : j = i
      · subst h
        simp [List.lookup]
      · simp [List.lookup, h, beq_eq_false_iff_ne.mpr h]
    · rw [if_neg hk]
      by_cases h : j = i
      · subst h
        simp [List.lookup, hk]
      · simp [List.lookup, beq_eq_false_iff_ne.mpr h, ih]
theorem keys_put (f : Str) (v : Vl) (u : V) : ∀ {fs : List (Str × Vl)} {us : List (Str × V)}, us.map (·.1) = fs.map (·.1) → (putF f u us).map (·.1) = (putV f v fs).map (·.1)
  | [], [], _ => rfl
  | [], _ :: _, h => by cases h
  | _ :: _, [], h => by cases h
  | (g, x) :: fs, (g', y) :: us, h => by
    have h1 : g' = g ∧ us.map (·.1) = fs.map (·.1) := by simpa using h
    obtain ⟨rfl, h2⟩ := h1
    have ih := keys_put f v u h2
    unfold putV putF
    by_cases c : g' = f
    · rw [if_pos c, if_pos c]
      simp [h2]
    · rw [if_neg c, if_neg c]
      simp [ih]
theorem Flds.put {K : PySem.W.Frag} {F : Hp} {A : List Addr} {fs : List (Str × Vl)} {us : List (Str × V)} {f : Str} {v : Vl} {u : V} (h : Flds K F A fs us) (r : RepV K F A v u) : Flds K F A (putV f v fs) (putF f u us) := by
  refine ⟨keys_put f v u h.keys, fun g w e => ?_⟩
  rw [lookup_putV] at e
  rw [lookup_putF]
  by_cases c : g = f
  · rw [if_pos c] at e ⊢
    cases e
    exact ⟨u, rfl, r⟩
  · rw [if_neg c] at e ⊢
    exact h.vals g w e
theorem Flds.len {K : PySem.W.Frag} {F : Hp} {A : List Addr} {fs : List (Str × Vl)} {us : List (Str × V)} (h : Flds K F A fs us) : us.length = fs.length := by
  have := congrArg List.length h.keys
  simpa using this
theorem key_none {α : Type} {f : Str} : ∀ {l : List (Str × α)}, l.lookup f = none ↔ f ∉ l.map (·.1)
  | [] => by simp
  | (g, x) :: r => by
    have ih := key_none (f := f) (l := r)
    by_cases c : f = g
    · subst c
      simp [List.lookup]
    · simp [List.lookup, beq_eq_false_iff_ne.mpr c, ih, c]
theorem Flds.none {K : PySem.W.Frag} {F : Hp} {A : List Addr} {fs : List (Str × Vl)} {us : List (Str × V)} (h : Flds K F A fs us) (f : Str) : us.lookup f = none ↔ fs.lookup f = none := by
  rw [key_none, key_none, h.keys]

def ClsO (K : PySem.W.Frag) (c : Str) : Prop := ∃ C, PySem.W.nsIn K mainGlobals c = some (some (.ref C)) ∧ Cls K C
def NoaO (K : PySem.W.Frag) (c f : Str) : Prop := ∀ C, PySem.W.nsIn K mainGlobals c = some (some (.ref C)) → NoAttr K C f
theorem GoodO.put {K : PySem.W.Frag} {W F : Hp} {A : List Addr} {m : M} {os : OS} {σ : L2.St} {H W' : Hp} {k : Nat} {c f : Str} {fs : List (Str × Vl)} {us : List (Str × V)} {a C dx : Addr} {v : Vl} {u : V} (G : GoodO K W F A m os σ H W') (hk : os.lookup k = some (.obj c fs)) (ha : A[k]? = some a)
    (hW : W' a = some (.ins C dx us)) (hC : PySem.W.nsIn K mainGlobals c = some (some (.ref C))) (hf : Flds K F A fs us) (r : RepV K F A v u) :
    GoodO K W F A m (setO os k (.obj c (putV f v fs))) σ (upd H a (.ins C dx (putF f u us))) (upd W' a (.ins C dx (putF f u us))) := by
  have wa : W a = none := G.out k c fs a hk ha
  have ok := Good.ghp G.G
  obtain ⟨sW, out, g⟩ := G
  obtain ⟨ext, hid, dj, slen, sl, len, st, nd, tb, _⟩ := g
  have fa : F a = none := dj a _ hW
  refine ⟨fun b o e => ?_, fun k' c' fs' a' e h => ?_, @Good.mk (gho K _) _ _ _ _ _ _ _ ?_ ?_ ?_ slen sl len ?_ nd ?_ ?_⟩
  · rw [upd_ne (fun z => by rw [z, wa] at e; cases e)]
    exact sW b o e
  · rw [lookup_setO] at e
    by_cases hkk : k' = k
    · subst hkk
      rw [ha] at h
      cases h
      exact wa
    · rw [if_neg hkk] at e
      exact out k' c' fs' a' e h
  · intro b o e
    rw [upd_ne (fun z => by rw [z, fa] at e; cases e)]
    exact ext b o e
  · intro b o e
    by_cases hb : b = a
    · rw [hb, upd_same] at e
      cases e
      rw [hb, upd_same]
    · rw [upd_ne hb] at e ⊢
      exact hid b o e
  · intro b o e
    by_cases hb : b = a
    · rw [hb]
      exact fa
    · rw [upd_ne hb] at e
      exact dj b o e
  · intro j xs e
    obtain ⟨b, vs, h1, h2, h3, h4, h5⟩ := st j xs e
    have ne : b ≠ a := fun z => by rw [z, hW] at h5; cases h5
    exact ⟨b, vs, h1, by rw [upd_ne ne]; exact h2, h3, h4, by rw [upd_ne ne]; exact h5⟩
  · intro q hq
    obtain ⟨⟨ps, t1, okk⟩, t2, t3⟩ := tb q hq
    have ne : q.2 ≠ a := fun z => by rw [z, hW] at t3; cases t3
    exact ⟨⟨ps, by rw [upd_ne ne]; exact t1, okk⟩, t2, by rw [upd_ne ne]; exact t3⟩
  · refine ⟨fun k' c' fs' e => ?_, fun k' b' dd d e => ?_, fun j k' c1 f1 c2 f2 b e1 e2 h1 h2 => ?_⟩
    · rw [lookup_setO] at e
      by_cases hkk : k' = k
      · subst hkk
        rw [if_pos rfl] at e
        cases e
        exact ⟨a, C, dx, putF f u us, ha, upd_same, hC, hf.put r⟩
      · rw [if_neg hkk] at e
        obtain ⟨a', C', dx', us', h1, h2, h3, h4⟩ := ok.ob k' c' fs' e
        have ne : a' ≠ a := fun z => hkk (ok.nd k' k c' fs' c fs a e hk (z ▸ h1) ha)
        exact ⟨a', C', dx', us', h1, by rw [upd_ne ne]; exact h2, h3, h4⟩
    · rw [lookup_setO] at e
      by_cases hkk : k' = k
      · subst hkk
        rw [if_pos rfl] at e
        cases e
      · rw [if_neg hkk] at e
        obtain ⟨h1, h2⟩ := ok.ex k' b' dd d e
        refine ⟨h1, fun b f z => ?_⟩
        obtain ⟨w, h3, h4⟩ := h2 b f z
        have ne : b ≠ a := fun z => by rw [z, hW] at h3; cases h3
        exact ⟨w, by rw [upd_ne ne]; exact h3, h4⟩
    · have back : ∀ {j : Nat} {c1 : Str} {f1 : List (Str × Vl)}, (setO os k (.obj c (putV f v fs))).lookup j = some (.obj c1 f1) → ∃ c2 f2, os.lookup j = some (.obj c2 f2) := fun {j c1 f1} e => by
        rw [lookup_setO] at e
        by_cases hj : j = k
        · subst hj
          exact ⟨c, fs, hk⟩
        · rw [if_neg hj] at e
          exact ⟨_, _, e⟩
      obtain ⟨_, _, e1'⟩ := back e1
      obtain ⟨_, _, e2'⟩ := back e2
      exact ok.nd j k' _ _ _ _ b e1' e2' h1 h2
section
variable {X : Cx} {Wx : WX} {pos pos' : Pos} {os : OS} {e o : Expr} {c f : Str}

def onF (os : OS) (c f : Str) (v : Vl) (P : Vl → Prop) : Prop := match v with
  | .c k => ∃ fs x, os.lookup k = some (.obj c fs) ∧ fs.lookup f = some x ∧ P x
  | _ => False
def dFld (os : OS) (c f : Str) (te : DE) : DE := fun m Q => te m fun v m1 => onF os c f v fun x => Q x m1
theorem je_fld {te : DE} (hc : ClsO X.K c) (hn : NoaO X.K c f) (he : @JE (gho X.K os) X e te) (hb : attributeBase e f X.env (eval e X.env) = eval e X.env := by rfl) : @JE (gho X.K os) X (.Attribute e f pos) (dFld os c f te) := by
  letI : Ghost := gho X.K os
  refine (pe_fld he hb).imp fun σ H Q hh => ?_
  obtain ⟨W, F, A, m, Qd, G, h, cc⟩ := hh
  refine ⟨W, F, A, m, _, G, h, fun F1 A1 v m1 H1 s1 p1 G1 q1 u r1 => ?_⟩
  cases v with
  | d x => exact (show False from q1).elim
  | c k =>
    obtain ⟨fs, x, hk, hf, q⟩ := q1
    obtain ⟨a, C, dx, us, h1, h2, h3, h4⟩ := (Good.ghp G1).ob k c fs hk
    obtain ⟨C', n1, cl⟩ := hc
    rw [h3] at n1
    cases n1
    obtain ⟨a', ha', rfl⟩ := r1
    rw [h1] at ha'
    cases ha'
    obtain ⟨w, hw, rw_⟩ := h4.vals f x hf
    exact ⟨a, C, dx, us, w, rfl, G1.hid _ _ h2, cl, hn C h3, hw, cc F1 A1 x m1 H1 s1 p1 G1 q w rw_⟩

def xFld (i : Nat) (c f : Str) (t : DEO) : DSO := fun Ex E m os => t Ex m os fun v m1 os1 => ∃ k fs, m1.sl[i]? = some (some (.c k)) ∧ os1.lookup k = some (.obj c fs) ∧ fs.length < 900 ∧ E.nx m1 (setO os1 k (.obj c (putV f v fs)))
theorem so_fld {i : Nat} {n : Str} {te : DEO} {p : Pos} (hc : ClsO X.K c) (hn : NoaO X.K c f) (hN : X.N[i]? = some n) (hv : Vis X.env.scope n) (he : JEO X Wx e te) (hs : swapsWith e (some (.Attribute (.Name n p) f pos')) pos.line X.env = pure false := by rfl)
    (n1 : (n == ("__debug__" : Str)) = false := by decide) (n2 : (n == ("__classdict__" : Str)) = false := by decide) : JSO X Wx (.Assign [.Attribute (.Name n p) f pos'] e pos) (xFld i c f te) :=
  (ps_fld (pe_var hN hv n1 n2) he hs).imp fun D σ H hh => by
    obtain ⟨W, F, A, m, os, W', E, Ex, G, h, cc, cx⟩ := hh
    refine ⟨W, F, A, m, os, W', _, Ex, G, h, fun F1 A1 v m1 os1 H1 W1 s1 p1 G1 q1 u r1 => ?_, cx⟩
    obtain ⟨k, fs, hs, hk, hl, q⟩ := q1
    obtain ⟨a, C, dx, us, h1, h2, h3, h4⟩ := (Good.ghp G1.G).ob k c fs hk
    obtain ⟨C', n1, cl⟩ := hc
    rw [h3] at n1
    cases n1
    obtain ⟨w, hw, a', ha', rfl⟩ := (show ∃ w, σ[i]? = some (some w) ∧ RepV X.K F1 A1 (.c k) w from by
      obtain ⟨_, _, g⟩ := G1
      obtain ⟨_, _, _, _, sl, _⟩ := g
      exact sl i _ hs)
    rw [h1] at ha'
    cases ha'
    have hH : H1 a = some (.ins C dx us) := by
      obtain ⟨_, _, g⟩ := G1
      obtain ⟨_, hid, _⟩ := g
      exact hid _ _ h2
    refine ⟨_, hw, a, C, dx, us, rfl, hH, cl, hn C h3, by rw [h4.len]; omega, ?_⟩
    exact cc.nx F1 A1 m1 _ σ _ _ s1 p1 (G1.put hk h1 h2 h3 h4 r1) q
end
end RT

set_option maxRecDepth 100000
set_option maxHeartbeats 4000000

namespace RT
open PySem PySem.Spec PyProof.Rows L2
section
variable {X : Cx} {Wx : WX} {pos pos' : Pos} {os : OS} {e o : Expr} {c f : Str}

def MthO (P : Program) (w : World) (K : PySem.W.Frag) (mg : Str → Option Value) (base : Heap) (c m : Str) (k : Nat) (sp : FSpecO) : Prop :=
  ∃ (C f : Addr) (fd : FuncData) (ps : List Str), PySem.W.nsIn K mainGlobals c = some (some (.ref C)) ∧ Cls K C ∧ Meth K C m f ∧ Fnn P w K mg base (L2.CX P w) k f fd ps (liftSpO K sp) ∧ Binds K fd ps []
def xMeth (c m : Str) (sp : FSpecO) (to : DEO) (ts : DAO) : DEO := fun Ex st os Q => to Ex st os fun v m1 os1 => (match v with
  | .c k => ∃ fs, os1.lookup k = some (.obj c fs) ∧ fs.lookup m = none
  | _ => False) ∧ ts Ex m1 os1 fun vs m2 os2 => sp (v :: vs) m2.st os2 (fun r st' os' => Q r ⟨m2.sl, st'⟩ os') (fun x d st' os' => Ex x d ⟨m2.sl, st'⟩ os')
theorem eo_meth {j k : Nat} {m : Str} {pl : Sem Bool} {es : List Expr} {apos : Pos} {to : DEO} {ts : DAO} {sp : FSpecO} (F : MthO X.prog X.w X.K X.mg X.base c m j sp) (hr : GRoom k X.A) (tk : Takes X Wx) (ho : JEO X Wx o to) (ha : JAO X Wx (e :: es) ts) (hj : j ≤ k := by decide)
    (hst : starEach (e :: es) X.env = (false, eval e X.env) :: starEach es X.env := by rfl) (hpl : (backTo pos (starEach es X.env)).any (·.1) = false := by rfl)
    (ht : eval (.Call (.Attribute o m apos) (e :: es) [] pos) X.env = (do
      let ov ← eval o X.env
      standAt apos.atName
      let (f, first) ← holding [ov] (getMethod ov m pl)
      callWith pos f first (backTo pos (starEach (e :: es) X.env)) (backToKw pos (keywordEach [] X.env))) := by rfl) :
    JEO X Wx (.Call (.Attribute o m apos) (e :: es) [] pos) (xMeth c m sp to ts) := by
  obtain ⟨C, f, fd, ps, hC, cl, hm, F, hb⟩ := F
  refine ⟨fun pins s σ H Q I h => ?_⟩
  obtain ⟨W, Fr, A, m0, os, W', Qd, Ex, G, h, cc, cx⟩ := h
  refine PySem.W.methodCall_KW (pl := pl) (thn (ho.run pins s σ H (fun x H1 => ∃ a dx us, x = .ref a ∧ H1 a = some (.ins C dx us) ∧ us.lookup m = none ∧ liftAO X.K Wx ts σ H1 fun vs H2 => liftSpO X.K sp (x :: vs) H2 Q (WE Wx σ)) I ⟨W, Fr, A, m0, os, W', _, Ex, G, h, ?_, cx⟩) fun u s1 ⟨x, H1, I1, rx, a, dx, us, ex, ea, l, q⟩ => ?_) ht
  · intro F1 A1 v m1 os1 H1 W1 s1 p1 G1 q1 u r1
    obtain ⟨hv, q1⟩ := q1
    cases v with
    | d x => exact hv.elim
    | c k' =>
      obtain ⟨fs, hk, hf⟩ := hv
      obtain ⟨a, C', dx, us, h1, h2, h3, h4⟩ := (Good.ghp G1.G).ob k' c fs hk
      rw [hC] at h3
      cases h3
      obtain ⟨a', ha', rfl⟩ := r1
      rw [h1] at ha'
      cases ha'
      have hH : H1 a = some (.ins C dx us) := by
        obtain ⟨_, _, g⟩ := G1
        obtain ⟨_, hid, _⟩ := g
        exact hid _ _ h2
      refine ⟨a, dx, us, rfl, hH, (h4.none m).mpr hf, W, F1, A1, m1, os1, W1, _, Ex, G1, q1, fun F2 A2 vs m2 os2 H2 W2 s2 p2 G2 q2 ws r2 => ?_, cx.mono s1 p1⟩
      refine lift_spO G2 (vs := .c k' :: vs) ⟨_, ws, rfl, ⟨a, pre_get p2 h1, rfl⟩, r2⟩ q2 (fun F3 A3 v m3 os3 H3 W3 s3 p3 => cc F3 A3 v m3 os3 H3 W3 (s1.trans (s2.trans s3)) (pre_trans p1 (pre_trans p2 p3))) (cx.mono (s1.trans s2) (pre_trans p1 p2))
  · subst ex
    obtain rfl : u = Value.ref a := rx
    refine getmeth_ok I1 ea cl hm l ?_
    refine PySem.W.callWith_K (first := [.ref a]) (h₀ := X.base) I.ok.mod.kin hm.kp (thn (ha.run pos pins s1 σ H1 _ I1 q) fun ws s2 ⟨vs, H2, I2, r, q2⟩ => ⟨I2.kIn, ?_⟩) hst hpl
    exact run_fnX (us := .ref a :: ws) (vs := .ref a :: vs) F (hr.mono hj) hb (passAt tk σ) I2 (.cons rfl r) q2
theorem eo_meth0 {j k : Nat} {m : Str} {pl : Sem Bool} {apos : Pos} {to : DEO} {sp : FSpecO} (F : MthO X.prog X.w X.K X.mg X.base c m j sp) (hr : GRoom k X.A) (tk : Takes X Wx) (ho : JEO X Wx o to) (hj : j ≤ k := by decide)
    (ht : eval (.Call (.Attribute o m apos) [] [] pos) X.env = (do
      let ov ← eval o X.env
      standAt apos.atName
      let (f, first) ← holding [ov] (getMethod ov m pl)
      callWith pos f first (backTo pos (starEach [] X.env)) (backToKw pos (keywordEach [] X.env))) := by rfl) :
    JEO X Wx (.Call (.Attribute o m apos) [] [] pos) (xMeth c m sp to xNil) := by
  obtain ⟨C, f, fd, ps, hC, cl, hm, F, hb⟩ := F
  refine ⟨fun pins s σ H Q I h => ?_⟩
  obtain ⟨W, Fr, A, m0, os, W', Qd, Ex, G, h, cc, cx⟩ := h
  refine PySem.W.methodCall_KW (pl := pl) (thn (ho.run pins s σ H (fun x H1 => ∃ a dx us, x = .ref a ∧ H1 a = some (.ins C dx us) ∧ us.lookup m = none ∧ liftSpO X.K sp [x] H1 Q (WE Wx σ)) I ⟨W, Fr, A, m0, os, W', _, Ex, G, h, ?_, cx⟩) fun u s1 ⟨x, H1, I1, rx, a, dx, us, ex, ea, l, q⟩ => ?_) ht
  · intro F1 A1 v m1 os1 H1 W1 s1 p1 G1 q1 u r1
    obtain ⟨hv, q1⟩ := q1
    cases v with
    | d x => exact hv.elim
    | c k' =>
      obtain ⟨fs, hk, hf⟩ := hv
      obtain ⟨a, C', dx, us, h1, h2, h3, h4⟩ := (Good.ghp G1.G).ob k' c fs hk
      rw [hC] at h3
      cases h3
      obtain ⟨a', ha', rfl⟩ := r1
      rw [h1] at ha'
      cases ha'
      have hH : H1 a = some (.ins C dx us) := by
        obtain ⟨_, _, g⟩ := G1
        obtain ⟨_, hid, _⟩ := g
        exact hid _ _ h2
      refine ⟨a, dx, us, rfl, hH, (h4.none m).mpr hf, ?_⟩
      exact lift_spO G1 (vs := [.c k']) ⟨_, [], rfl, ⟨a, h1, rfl⟩, rfl⟩ q1 (fun F3 A3 v m3 os3 H3 W3 s3 p3 => cc F3 A3 v m3 os3 H3 W3 (s1.trans s3) (pre_trans p1 p3)) (cx.mono s1 p1)
  · subst ex
    obtain rfl : u = Value.ref a := rx
    refine getmeth_ok I1 ea cl hm l ?_
    exact PySem.W.callWith_K0 (first := [.ref a]) I1.kIn hm.kp (run_fnX (us := [.ref a]) (vs := [.ref a]) F (hr.mono hj) hb (passAt tk σ) I1 (.cons rfl .nil) q)
end
end RT

set_option maxRecDepth 100000
set_option maxHeartbeats 4000000

namespace RT
open PySem PySem.Spec PyProof.Rows L2
def MkO (P : Program) (w : World) (K : PySem.W.Frag) (mg : Str → Option Value) (base : Heap) (c : Str) (k : Nat) (sp : FSpecO) : Prop :=
  ∃ (C f : Addr) (fd : FuncData) (ps : List Str), PySem.W.nsIn K mainGlobals c = some (some (.ref C)) ∧ mg c = some (.ref C) ∧ Mk K C f ∧ Fnn P w K mg base (L2.CX P w) k f fd ps (liftSpO K sp) ∧ Binds K fd ps []
theorem OsOk.fresh {K : PySem.W.Frag} {os : OS} {W F : Hp} {A : List Addr} (h : OsOk K os W F A) {k : Nat} (hk : A.length ≤ k) : os.lookup k = none := by
  cases z : os.lookup k with
  | none => rfl
  | some o =>
    have at0 : A[k]? = none := List.getElem?_eq_none hk
    cases o with
    | obj c fs =>
      obtain ⟨a, _, _, _, h1, _⟩ := h.ob k c fs z
      rw [at0] at h1
      cases h1
    | exc a dd d =>
      obtain ⟨h1, _⟩ := h.ex k a dd d z
      rw [at0] at h1
      cases h1
theorem GoodO.made {K : PySem.W.Frag} {W F : Hp} {A : List Addr} {m : M} {os : OS} {σ : L2.St} {H W' : Hp} {c : Str} {C x dx : Addr} (G : GoodO K W F A m os σ H W') (hC : PySem.W.nsIn K mainGlobals c = some (some (.ref C))) (nx : H x = none) (ndx : H dx = none) (ne : dx ≠ x) :
    GoodO K W F (A ++ [x]) ⟨m.sl, m.st ++ [.dead]⟩ (setO os m.st.length (.obj c [])) σ (upd (upd H dx (.own x)) x (.ins C dx [])) (upd W' x (.ins C dx [])) := by
  have ok := Good.ghp G.G
  have G1 := @Good.ptr (gho K os) _ _ _ _ _ _ _ x G.G
  have pr : A <+: A ++ [x] := ⟨[x], rfl⟩
  have lA : A.length = m.st.length := by
    obtain ⟨_, _, g⟩ := G
    obtain ⟨_, _, _, _, _, l, _⟩ := g
    exact l
  obtain ⟨sW, out, g⟩ := G
  obtain ⟨ext, hid, dj, _⟩ := g
  obtain ⟨_, _, _, slen, sl, len, st, nd, tb, _⟩ := G1
  have wx' : W' x = none := by
    cases z : W' x with
    | none => rfl
    | some o => rw [hid _ _ z] at nx; cases nx
  have wx : W x = none := by
    cases z : W x with
    | none => rfl
    | some o => rw [sW _ _ z] at wx'; cases wx'
  have fx : F x = none := by
    cases z : F x with
    | none => rfl
    | some o => rw [ext _ _ z] at nx; cases nx
  have up : ∀ b o, H b = some o → upd (upd H dx (.own x)) x (.ins C dx []) b = some o := fun b o e => by
    have n1 : b ≠ x := fun z => by rw [z, nx] at e; cases e
    have n2 : b ≠ dx := fun z => by rw [z, ndx] at e; cases e
    rw [upd_ne n1, upd_ne n2]
    exact e
  have atx : (A ++ [x])[m.st.length]? = some x := by
    rw [← lA]
    simp
  have fr := ok.fresh (k := m.st.length) (by omega)
  have lk : ∀ {j : Nat} {o : OCell}, (setO os m.st.length (.obj c [])).lookup j = some o → (j = m.st.length ∧ o = .obj c []) ∨ (j ≠ m.st.length ∧ os.lookup j = some o) := fun {j o} e => by
    rw [lookup_setO] at e
    by_cases h : j = m.st.length
    · rw [if_pos h] at e
      cases e
      exact .inl ⟨h, rfl⟩
    · rw [if_neg h] at e
      exact .inr ⟨h, e⟩
  refine ⟨fun b o e => ?_, fun k c' fs a e h => ?_, @Good.mk (gho K _) _ _ _ _ _ _ _ ?_ ?_ ?_ slen sl len ?_ nd ?_ ?_⟩
  · rw [upd_ne (fun z => by rw [z, wx] at e; cases e)]
    exact sW b o e
  · rcases lk e with ⟨rfl, _⟩ | ⟨_, e⟩
    · rw [atx] at h
      cases h
      exact wx
    · obtain ⟨a0, _, _, _, g1, _⟩ := ok.ob k c' fs e
      have := pre_get pr g1
      rw [h] at this
      cases this
      exact out k c' fs a e g1
  · exact fun b o e => up b o (ext b o e)
  · intro b o e
    by_cases hb : b = x
    · rw [hb, upd_same] at e
      cases e
      rw [hb, upd_same]
    · rw [upd_ne hb] at e
      exact up b o (hid b o e)
  · intro b o e
    by_cases hb : b = x
    · rw [hb]
      exact fx
    · rw [upd_ne hb] at e
      exact dj b o e
  · intro j xs e
    obtain ⟨b, vs, h1, h2, h3, h4, h5⟩ := st j xs e
    have n1 : b ≠ x := fun z => by rw [z, nx] at h2; cases h2
    exact ⟨b, vs, h1, up _ _ h2, h3, h4, by rw [upd_ne n1]; exact h5⟩
  · intro q hq
    obtain ⟨⟨ps, t1, okk⟩, t2, t3⟩ := tb q hq
    have n1 : q.2 ≠ x := fun z => by rw [z, nx] at t1; cases t1
    exact ⟨⟨ps, up _ _ t1, okk⟩, t2, by rw [upd_ne n1]; exact t3⟩
  · refine ⟨fun k c' fs e => ?_, fun k a dd d e => ?_, fun j k c1 f1 c2 f2 b e1 e2 h1 h2 => ?_⟩
    · rcases lk e with ⟨rfl, e'⟩ | ⟨_, e⟩
      · cases e'
        exact ⟨x, C, dx, [], atx, upd_same, hC, rfl, fun f v e => by simp at e⟩
      · obtain ⟨a, C', dx', us, h1, h2, h3, h4⟩ := ok.ob k c' fs e
        have n1 : a ≠ x := fun z => by rw [z, wx'] at h2; cases h2
        exact ⟨a, C', dx', us, pre_get pr h1, by rw [upd_ne n1]; exact h2, h3, h4.mono (Same.refl _) pr⟩
    · rcases lk e with ⟨_, e'⟩ | ⟨_, e⟩
      · cases e'
      · obtain ⟨h1, h2⟩ := ok.ex k a dd d e
        refine ⟨pre_get pr h1, fun b f z => ?_⟩
        obtain ⟨u, h3, h4⟩ := h2 b f z
        have n1 : b ≠ x := fun z => by rw [z, wx'] at h3; cases h3
        exact ⟨u, by rw [upd_ne n1]; exact h3, h4⟩
    · have ad : ∀ {j : Nat} {c : Str} {fs : List (Str × Vl)}, os.lookup j = some (.obj c fs) → ∀ b, (A ++ [x])[j]? = some b → b ≠ x ∧ A[j]? = some b := fun {j c fs} e b h => by
        obtain ⟨a0, _, _, _, g1, g2, _⟩ := ok.ob j c fs e
        have := pre_get pr g1
        rw [h] at this
        cases this
        exact ⟨fun z => (by rw [z, wx'] at g2; cases g2), g1⟩
      rcases lk e1 with ⟨rfl, _⟩ | ⟨_, e1⟩
      · rcases lk e2 with ⟨rfl, _⟩ | ⟨_, e2⟩
        · rfl
        · rw [atx] at h1
          cases h1
          exact absurd rfl (ad e2 _ h2).1
      · rcases lk e2 with ⟨rfl, _⟩ | ⟨_, e2⟩
        · rw [atx] at h2
          cases h2
          exact absurd rfl (ad e1 _ h1).1
        · exact ok.nd j k _ _ _ _ b e1 e2 (ad e1 _ h1).2 (ad e2 _ h2).2
theorem run_makeX {X : Cx} {CX : CXT} {k : Nat} {C f : Addr} {fd : FuncData} {ps : List Str} {sp : Sp} {E : XK} {pins : List (Addr × Obj)} {σ : L2.St} {H : Hp} {s : Shared} {Q : VK} {us : List Value} {vs : List V} (M : Mk X.K C f) (F : Fnn X.prog X.w X.K X.mg X.base CX k f fd ps sp) (hr : GRoom (k + 1) X.A) (hb : Binds X.K fd ps [])
    (hx : PassesAt CX X σ E) (I : Inv X pins σ H s) (r : Vals vs us)
    (h : ∀ x dx, H x = none → H dx = none → dx ≠ x → sp (.ref x :: vs) (upd (upd H dx (.own x)) x (.ins C dx [])) (fun v H2 => v = .non ∧ Q (.ref x) H2) E) :
    wpAny (model X.prog X.w) X.A (call (.ref C) us) (EP X pins σ Q) X.xe s := by
  have hq := h (s.heap.objs.size + 1) s.heap.objs.size (I.hok.fresh (Nat.le_succ _)) (I.hok.fresh (Nat.le_refl _)) (Nat.ne_of_lt (Nat.lt_succ_self _))
  have I2 := Inv.made (C := C) I
  have r2 : Vals (V.ref (s.heap.objs.size + 1) :: vs) (Value.ref (s.heap.objs.size + 1) :: us) := .cons rfl r
  have hl : (Value.ref (s.heap.objs.size + 1) :: us).length = ps.length := by
    have e := r2.length
    rw [F.len _ _ _ _ hq] at e
    exact e.symm
  have bd := hb _ (Value.ref (s.heap.objs.size + 1) :: us) I2.kIn (by rw [List.append_nil]; exact hl)
  rw [List.append_nil] at bd
  refine wpAny_call (make_map (f := f) I.kIn M.makes M.init (beq_iff_eq.mp M.fn) (codeAny_mono (F.run _ X.stack _ _ ⟨Value.ref (s.heap.objs.size + 1) :: us, []⟩ (Value.ref (s.heap.objs.size + 1) :: us) _ _ E (hr.make C us)
    (I2.env0.make C us []) bd r2 hq) fun r s' hq' => ?_))
  cases r with
  | error e => exact hx pins _ _ e s' I2 hq'
  | ok fl =>
    cases fl with
    | ret u =>
      obtain ⟨v, H', I3, rv, ev, q3⟩ := I2.after hq'
      subst ev
      exact ⟨rv, ⟨V.ref (s.heap.objs.size + 1), H', I3, rfl, q3⟩⟩
    | next => exact False.elim hq'
    | brk => exact False.elim hq'
    | cont => exact False.elim hq'
section
variable {X : Cx} {Wx : WX} {pos p : Pos} {e : Expr} {es : List Expr} {c : Str}
def xMake (c : Str) (sp : FSpecO) (ts : DAO) : DEO := fun Ex m os Q => ts Ex m os fun vs m1 os1 => sp (.c m1.st.length :: vs) (m1.st ++ [.dead]) (setO os1 m1.st.length (.obj c []))
  (fun r st' os' => r = .d .non ∧ Q (.c m1.st.length) ⟨m1.sl, st'⟩ os') (fun x d st' os' => Ex x d ⟨m1.sl, st'⟩ os')
theorem eo_make {j k : Nat} {ts : DAO} {sp : FSpecO} (F : MkO X.prog X.w X.K X.mg X.base c j sp) (hr : GRoom k X.A) (hg : Gl X c) (tk : Takes X Wx) (ha : JAO X Wx (e :: es) ts) (hj : j + 1 ≤ k := by decide) (hdb : (c == ("__debug__" : Str)) = false := by decide)
    (he : starEach (e :: es) X.env = (false, eval e X.env) :: starEach es X.env := by rfl) (hpl : (backTo pos (starEach es X.env)).any (·.1) = false := by rfl) : JEO X Wx (.Call (.Name c p) (e :: es) [] pos) (xMake c sp ts) := by
  obtain ⟨C, f, fd, ps, hC, hm, M, F, hb⟩ := F
  refine ⟨fun pins s σ H Q I h => ?_⟩
  obtain ⟨W, Fr, A, m, os, W', Qd, Ex, G, h, cc, cx⟩ := h
  refine wpAny_Call_Name_kw (ld_glob I hg hm ?_ hdb)
  refine PySem.W.callWith_K (h₀ := X.base) I.ok.mod.kin M.kp (thn (ha.run pos pins s σ H (fun us H1 => ∀ x dx, H1 x = none → H1 dx = none → dx ≠ x → liftSpO X.K sp (.ref x :: us) (upd (upd H1 dx (.own x)) x (.ins C dx [])) (fun v H2 => v = .non ∧ Q (.ref x) H2) (WE Wx σ)) I ?_) fun us s1 ⟨vs, H1, I1, r, q⟩ => ⟨I1.kIn, ?_⟩) he hpl
  · refine ⟨W, Fr, A, m, os, W', _, Ex, G, h, fun F1 A1 vs m1 os1 H1 W1 s1 p1 G1 q1 us r1 x dx nx ndx ne => ?_, cx⟩
    have lA : A1.length = m1.st.length := by
      obtain ⟨_, _, g⟩ := G1
      obtain ⟨_, _, _, _, _, l, _⟩ := g
      exact l
    have G2 := GoodO.made (c := c) (C := C) G1 hC nx ndx ne
    have pr : A1 <+: A1 ++ [x] := ⟨[x], rfl⟩
    have atx : (A1 ++ [x])[m1.st.length]? = some x := by
      rw [← lA]
      simp
    refine ⟨W, F1, A1 ++ [x], m1.st ++ [.dead], _, _, .c m1.st.length :: vs, _, _, G2.bare, ⟨_, us, rfl, ⟨x, atx, rfl⟩, RepVs.mono (Same.refl _) pr r1⟩, q1, fun F3 A3 st3 os3 H3 W3 r u s3 p3 G3 r3 q3 => ?_, fun F3 A3 st3 os3 H3 W3 x' d v dd s3 p3 G3 xf e q3 => ?_⟩
    · obtain ⟨rfl, q3⟩ := q3
      have r3' : Rep X.K F3 .non u := r3
      simp only [Rep] at r3'
      refine ⟨r3', ?_⟩
      exact cc F3 A3 (.c m1.st.length) ⟨m1.sl, st3⟩ os3 H3 W3 (s1.trans s3) (pre_trans p1 (pre_trans pr p3)) (G1.back s3 (pre_trans pr p3) G3) q3 (.ref x) ⟨x, pre_get p3 atx, rfl⟩
    · exact cx F3 A3 ⟨m1.sl, st3⟩ os3 σ H3 W3 x' d v dd (s1.trans s3) (pre_trans p1 (pre_trans pr p3)) (G1.back s3 (pre_trans pr p3) G3) xf e q3
  · exact run_makeX M F (hr.mono hj) hb (passAt tk σ) I1 r q
end
end RT

set_option maxRecDepth 100000
set_option maxHeartbeats 4000000

namespace RT
open PySem PySem.Spec PyProof.Rows L2
section
variable {X : Cx} {Wx : WX} {pos pos' : Pos} {e o : Expr} {es : List Expr}
def xNot (t : DTO) : DTO := fun Ex m os Q => t Ex m os fun b m1 os1 => Q (!b) m1 os1
theorem to_not {t : DTO} (h : JTO X Wx e t) : JTO X Wx (.UnaryOp .Not e pos) (xNot t) := (pt_not h).imp fun σ H Q hh => by
  obtain ⟨W, F, A, m, os, W', Qd, Ex, G, h, c, cx⟩ := hh
  exact ⟨W, F, A, m, os, W', _, Ex, G, h, fun F1 A1 b m1 os1 H1 W1 s1 p1 G1 q1 => c F1 A1 (!b) m1 os1 H1 W1 s1 p1 G1 q1, cx⟩
def xTru (t : DEO) : DTO := fun Ex m os Q => t Ex m os fun v m1 os1 => match v with
  | .d (.bl b) => Q b m1 os1
  | _ => False
theorem to_tru {t : DEO} (h : JEO X Wx e t) (he : ∀ whole, isTrue e X.env whole = (do let v ← whole; standAt e.pos; holding [v] (truthy v)) := by intro _; rfl) : JTO X Wx e (xTru t) := (pt_val h he).imp fun σ H Q hh => by
  obtain ⟨W, F, A, m, os, W', Qd, Ex, G, h, c, cx⟩ := hh
  refine ⟨W, F, A, m, os, W', _, Ex, G, h, fun F1 A1 v m1 os1 H1 W1 s1 p1 G1 q1 u r1 => ?_, cx⟩
  cases v with
  | c k => exact (show False from q1).elim
  | d x =>
    cases x with
    | bl b =>
      have r1' : Rep X.K F1 (.bl b) u := r1
      simp only [Rep] at r1'
      exact ⟨b, r1', c F1 A1 b m1 os1 H1 W1 s1 p1 G1 q1⟩
    | _ => exact (show False from q1).elim
end
end RT

set_option maxRecDepth 100000
set_option maxHeartbeats 4000000

namespace RT
open PySem PySem.Spec PyProof.Rows L2
variable [Gh : Ghost]
section
variable {X : Cx}

def bOrd : DRB := fun xs P => match xs with
  | [.str a] => a.length = 1 ∧ P (.int (a.cps.getD 0 0 : Nat))
  | _ => False
variable {e o : Expr} {te to : DE} {pos apos : Pos}

def onS (v : Vl) (P : Str → Prop) : Prop := match v with
  | .d (.str a) => P a
  | _ => False

def signs (z : Str) : List Dt := z.cps.toList.map fun c => .str ⟨#[c]⟩
def dSgn (t : DE) : DI := fun m Q => t m fun v m1 => onS v fun z => Q (signs z) none m1

end
end RT

set_option maxRecDepth 100000
set_option maxHeartbeats 4000000

namespace RT
open PySem PySem.Spec PyProof.Rows L2
def asM (n : Nat) (ml : List (Str × Str)) (g : Addr → Option Obj) : List Addr :=
  (asK g (He.asD g n) ++ (cStatics :: (ml.map fun q => He.fAd (frN g (He.asD g n)) (q.1, some q.2)).flatMap fun m => m :: match g m with
    | some o => He.refsD o
    | none => [])).eraseDups
def obsM (n : Nat) (ml : List (Str × Str)) (fa : List He.Fa) (fn : List He.DefD) (el : List ErD) (xb : PySem.W.Frag → Bool) (g : Addr → Option Obj) : AlR × List MtW :=
  ((xb (frN g (asM n ml g)) && tabsBK g (frN g (asM n ml g)), He.obsD fa fn (frN g (asM n ml g))), el.map fun d => mtW (frN g (asM n ml g)) d.x)
def hookM (n : Nat) (ml : List (Str × Str)) (fa : List He.Fa) (fn : List He.DefD) (el : List ErD) (xb : PySem.W.Frag → Bool) : PySem.W.Hook where
  α := AlR × List MtW
  obs := fun s => obsM n ml fa fn el xb s.heap.get?
  val := fun _ => ((true, He.valD fn), el.map ErD.val)
  says := fun _ h => ∃ K : PySem.W.Frag, K.In h ∧ NoLst K ∧ TabsOk K h ∧ xb K = true ∧ He.SaysD fa fn K ∧ el.map (fun d => mtW K d.x) = el.map ErD.val
  of := fun _ _ e => ⟨_, frN_in, fun _ _ e => (frN_mem e).2.1, tabsBK_ok (Bool.and_eq_true_iff.mp (congrArg (fun z : AlR × List MtW => z.1.1) e)).2, (Bool.and_eq_true_iff.mp (congrArg (fun z : AlR × List MtW => z.1.1) e)).1, congrArg (fun z : AlR × List MtW => z.1.2) e, congrArg Prod.snd e⟩
  keeps := fun _ _ _ ⟨K, hK, n, t, x, c, m⟩ k => ⟨K, PySem.W.Frag.In.keeps hK k, n, ⟨t.cd, t.out, fun q hq => k _ _ (t.get q hq)⟩, x, c, m⟩
theorem obsM_eq {n : Nat} {ml : List (Str × Str)} {fa : List He.Fa} {fn : List He.DefD} {el : List ErD} {xb : PySem.W.Frag → Bool} {g : Addr → Option Obj} {s : Shared} (h : ∀ a, g a = s.heap.get? a) : obsM n ml fa fn el xb g = (hookM n ml fa fn el xb).obs s := by
  have e : g = s.heap.get? := funext h
  rw [e] <;> rfl
section
variable {P : Program} {w : World} {K : PySem.W.Frag} {mg : Str → Option Value} {base : Heap} {c m f : Str} {k : Nat} {fd : FuncData} {ps : List Str} {sp : FSpecO}
theorem clsO_of (g : (He.Fa.glo c).ok K = true) (h : (He.Fa.cls c).ok K = true) : ClsO K c := ⟨He.ga K c, He.eqO_ok g, He.cls_ok h⟩
theorem noaO_of (g : (He.Fa.glo c).ok K = true) (h : (He.Fa.noat c f).ok K = true) : NoaO K c f := fun C hC => by
  have := He.eqO_ok g
  rw [this] at hC
  cases hC
  exact He.noat_ok h
theorem mthO_of (g : (He.Fa.glo c).ok K = true) (hc : (He.Fa.cls c).ok K = true) (hm : (He.Fa.meth c m).ok K = true) (F : Fnn P w K mg base (L2.CX P w) k (He.fAd K (c, some m)) fd ps (liftSpO K sp)) (hb : Binds K fd ps []) : MthO P w K mg base c m k sp :=
  ⟨He.ga K c, He.ma K (He.ga K c) m, fd, ps, He.eqO_ok g, He.cls_ok hc, He.meth_ok hm, F, hb⟩
theorem mkO_of (KX : K.In base) (GX : base.Ns mainGlobals mg) (g : (He.Fa.glo c).ok K = true) (hm : (He.Fa.mkr c).ok K = true) (F : Fnn P w K mg base (L2.CX P w) k (He.fAd K (c, some "__init__")) fd ps (liftSpO K sp)) (hb : Binds K fd ps []) : MkO P w K mg base c k sp :=
  ⟨He.ga K c, He.ma K (He.ga K c) "__init__", fd, ps, He.eqO_ok g, He.glo_ok KX GX g, He.mkr_ok hm, F, hb⟩
end
end RT

set_option maxRecDepth 100000
set_option maxHeartbeats 4000000

namespace RT
open PySem PySem.Spec PyProof.Rows L2
theorem GoodO.tt {K : PySem.W.Frag} {W F : Hp} {A : List Addr} {m : M} {os : OS} {σ : L2.St} {H W' : Hp} (G : GoodO K W F A m os σ H W') : @Good Ghost.tt K W' F A m σ H := @Good.regh (gho K os) Ghost.tt _ _ _ _ _ _ _ G.G True.intro
theorem GoodO.ot {K : PySem.W.Frag} {W F F' : Hp} {A A' : List Addr} {m m' : M} {os : OS} {σ σ' : L2.St} {H H' W' : Hp} (G : GoodO K W F A m os σ H W') (s : Same F F') (p : A <+: A') (G' : @Good Ghost.tt K W' F' A' m' σ' H') : GoodO K W F' A' m' os σ' H' W' :=
  G.next p (@Good.regh Ghost.tt (gho K os) _ _ _ _ _ _ _ G' (OsOk.mono (Good.ghp G.G) (SameO.refl _) s p))
end RT

set_option maxRecDepth 100000
set_option maxHeartbeats 4000000

namespace RT
open PySem PySem.Spec PyProof.Rows L2
variable [Gh : Ghost]
section
variable {X : Cx} {pos : Pos}
inductive DcC : Expr → Dt → Prop where
  | str {s j p} : DcC (.Constant (.str s) j p) (.str s)
  | int {i j p} : DcC (.Constant (.int i) j p) (.int i)
inductive DcL : List (Option Expr) → List Expr → List (Str × Dt) → Prop where
  | nil : DcL [] [] []
  | cons {s j p e d ks vs kvs} (h : DcC e d) (r : DcL ks vs kvs) : DcL (some (.Constant (.str s) j p) :: ks) (e :: vs) ((s, d) :: kvs)
end
end RT

set_option maxRecDepth 100000
set_option maxHeartbeats 4000000

namespace RT
open PySem PySem.Spec PyProof.Rows L2
section
variable {X : Cx} {Wx : WX} {pos : Pos}
def xTry0 (b : DSO) (hs : List (Str × (OS → DS))) : DSO := fun Ex E m os => b (fun x d m1 os1 => ∃ t, (x, t) ∈ hs ∧ t os1 ⟨fun m' => E.nx m' os1, fun v m' => E.rt v m' os1, fun m' => E.bk m' os1, fun m' => E.ct m' os1⟩ m1) E m os
theorem so_try0 {y : Str} {cy : Value} {body suite : List Stmt} {b₀ : Stmt} {np pos' : Pos} {b : DSO} {hs : List (Str × (OS → DS))} (h1 : X.stack = X.env :: X.outer) (h2 : X.env.frame = some X.env.locals) (tk : Takes X Wx)
    (hg : Gl X y) (hm : X.mg y = some cy) (hdb : (y == ("__debug__" : Str)) = false)
    (hx : ∀ x t, (x, t) ∈ hs → ∀ v, PySem.W.nsIn X.K mainGlobals x = some (some v) → PySem.W.exmOne X.K v cy = some true)
    (hb : ∀ (W : WX) (pn : List (Addr × Obj)) (xe : Value → Shared → Prop), Takes (X.tr pn xe) W → PassesOwn (model X.prog X.w) X.A X.env xe → JSOs (X.tr pn xe) W body b)
    (hsu : ∀ (a : Addr) (oe : Obj) (pn : List (Addr × Obj)) (x : Str) (t : OS → DS) (os : OS), (x, t) ∈ hs → @JSs (gho X.K os) (X.suite a ((a, oe) :: pn)) (b₀ :: suite) (t os)) :
    JSO X Wx (.Try body [.ExceptHandler (some (.Name y np)) none (b₀ :: suite) pos'] [] [] pos) (xTry0 b hs) := by
  have hc : Names X y cy := ⟨hg, hdb, .inl hm⟩
  let ts : Addr → Value → Option Addr → TS := fun a cls d D σ H => ∃ (x : Str) (t : OS → DS) (os : OS), (x, t) ∈ hs ∧ @liftS (gho X.K os) X.K (t os) D σ H
  refine (ps_try_only (tb := fun W => liftSO X.K W b) (ts := ts) (Wout := Wx) h1 h2 hc tk hb fun a oe cls d pn hz hf => ?_).imp fun D σ H hh => ?_
  · exact ⟨fun pins s σ H D I ⟨x, t, os, hmem, h⟩ => (hsu a oe pn x t os hmem).run pins s σ H D I h⟩
  · obtain ⟨W, F, A, m, os, W', E, Ex, G, h, c, cx⟩ := hh
    refine ⟨W, F, A, m, os, W', E, _, G, h, c, fun F1 A1 m1 os1 σ1 H1 W1 x d v dd s1 p1 G1 xf ev q => ?_⟩
    obtain ⟨t, hmem, q⟩ := q
    refine ⟨true, hx x t hmem v ev, fun _ a na => ⟨x, t, os1, hmem, ?_⟩, fun z => by cases z⟩
    letI : Ghost := gho X.K os1
    exact ⟨W1, F1, A1, _, _, G1.G, q, ⟨fun F2 A2 m2 σ2 H2 s2 p2 g q2 => c.nx F2 A2 m2 os1 σ2 H2 W1 (s1.trans s2) (pre_trans p1 p2) (G1.next p2 g) q2, fun F2 A2 m2 σ2 H2 v2 u2 s2 p2 g r2 q2 => c.rt F2 A2 m2 os1 σ2 H2 W1 v2 u2 (s1.trans s2) (pre_trans p1 p2) (G1.next p2 g) r2 q2,
      fun F2 A2 m2 σ2 H2 s2 p2 g q2 => c.bk F2 A2 m2 os1 σ2 H2 W1 (s1.trans s2) (pre_trans p1 p2) (G1.next p2 g) q2, fun F2 A2 m2 σ2 H2 s2 p2 g q2 => c.ct F2 A2 m2 os1 σ2 H2 W1 (s1.trans s2) (pre_trans p1 p2) (G1.next p2 g) q2⟩⟩
end
end RT

set_option maxRecDepth 100000
set_option maxHeartbeats 4000000

namespace RT
open PySem PySem.Spec PyProof.Rows L2
section
variable [Gh : Ghost]
variable {X : Cx} {o e : Expr} {to te : DE} {apos pos : Pos}
end
end RT

set_option maxRecDepth 100000
set_option maxHeartbeats 4000000

namespace RT
open PySem PySem.Spec PyProof.Rows L2
abbrev TSu := Addr → Value → Option Addr → TS
def offE (i : Nat) (D : Ends) : Ends := ⟨fun σ H => D.nx (List.set σ i none) H, D.rt, fun σ H => D.bk (List.set σ i none) H, fun σ H => D.ct (List.set σ i none) H⟩
def wMix (K : PySem.W.Frag) (Wout : WX) (D : Ends) : List (Value × Option Nat × TSu) → WX
  | [] => Wout
  | (c, none, ts) :: r => fun cls d σ H => ∃ b, PySem.W.exmOne K cls c = some b ∧ (b = true → ∀ a : Addr, H a = none → ts a cls d D σ H) ∧ (b = false → wMix K Wout D r cls d σ H)
  | (c, some i, ts) :: r => fun cls d σ H => ∃ b, PySem.W.exmOne K cls c = some b ∧ (b = true → ∀ a : Addr, H a = none → ts a cls d (offE i D) (List.set σ i (some (.ref a))) H) ∧ (b = false → wMix K Wout D r cls d σ H)
inductive HdsM (X : Cx) : List ExceptHandler → List (Value × Option Nat × TSu) → Prop
  | nil : HdsM X [] []
  | only {x : Str} {c : Value} {ts : TSu} {b₀ : Stmt} {suite : List Stmt} {np pos' : Pos} {hds : List ExceptHandler} {l : List (Value × Option Nat × TSu)} :
    Names X x c → (∀ (a : Addr) (oe : Obj) (cls : Value) (d : Option Addr) (pn : List (Addr × Obj)), Zc cls d oe → (∃ vs, oe.data = .fields vs) → PSs (X.suite a ((a, oe) :: pn)) (b₀ :: suite) (ts a cls d)) →
    HdsM X hds l → HdsM X (.ExceptHandler (some (.Name x np)) none (b₀ :: suite) pos' :: hds) ((c, none, ts) :: l)
  | as {x n : Str} {c : Value} {i : Nat} {ts : TSu} {b₀ : Stmt} {suite : List Stmt} {np pos' : Pos} {hds : List ExceptHandler} {l : List (Value × Option Nat × TSu)} :
    Names X x c → X.N[i]? = some n → X.env.kindOf n = some .local → (∀ (a : Addr) (oe : Obj) (cls : Value) (d : Option Addr) (pn : List (Addr × Obj)), Zc cls d oe → (∃ vs, oe.data = .fields vs) → PSs (X.suite a ((a, oe) :: pn)) (b₀ :: suite) (ts a cls d)) →
    HdsM X hds l → HdsM X (.ExceptHandler (some (.Name x np)) (some n) (b₀ :: suite) pos' :: hds) ((c, some i, ts) :: l)
theorem nm_eval {Y : Cx} {pins : List (Addr × Obj)} {σ : L2.St} {H : Hp} {s : Shared} {x : Str} {c : Value} {pos : Pos} {Q : Value → Shared → Prop} {E : Value → Shared → Prop} (S : L2.Inv Y pins σ H s) (hc : Names Y x c) (q : Q c s) : wpAny (model Y.prog Y.w) Y.A (eval (.Name x pos) Y.env) Q E s := by
  obtain ⟨hg, hdbg, hmm⟩ := hc
  rcases hmm with hm | ⟨hm, hv, hnn⟩
  · exact ld_glob S hg hm q hdbg
  · exact ld_blt S hg hm hv q hnn hdbg
theorem ps_try_mix {X : Cx} {body : List Stmt} {h₀ : ExceptHandler} {hds : List ExceptHandler} {l : List (Value × Option Nat × TSu)} {pos : Pos} {tb : WX → TS} {Wout : WX} (hs : X.stack = X.env :: X.outer) (hf : X.env.frame = some X.env.locals) (hN : X.N.Nodup) (tk : Takes X Wout)
    (hb : ∀ (W : WX) (pn : List (Addr × Obj)) (xe : Value → Shared → Prop), Takes (X.tr pn xe) W → PassesOwn (model X.prog X.w) X.A X.env xe → PSs (X.tr pn xe) body (tb W)) (hh : HdsM X (h₀ :: hds) l) :
    PS X (.Try body (h₀ :: hds) [] [] pos) (fun D σ H => tb (wMix X.K Wout D l) D σ H) := by
  refine ⟨fun pins s σ H D I h => ?_⟩
  have ok := I.ok
  have hfr : X.A.frames = some (X.env :: X.outer) := by rw [ok.frames, hs]
  refine wpAny_Try_except (wpAny_mono ((hb (wMix X.K Wout D l) (X.pn ++ pins) (fun e s₁ => wpAny (model X.prog X.w) X.A (noteFrame e X.env) (fun _ s₂ => wpAny (model X.prog X.w) X.A (setFlight e none) (fun _ s₃ => wpAny (model X.prog X.w) X.A (handleBy e X.env (h₀ :: hds)) (SP X pins D) X.xe s₃) X.xe s₂) X.xe s₁) ?_ PassesOwn.looking).run [] s σ H D (Inv.toTry I _) h) (fun f s1 hsp => ?_) (fun e s1 he => he))
  · intro u s' xx
    obtain ⟨a, B, sI, pins', σ', H', cls, d, rfl, J', nb, up, sky, na, os, ag, w⟩ := xx
    have J := Inv.ofTry J' ok
    have sky' : Sky B (X.env :: X.outer) a (Zc cls d) X.env.locals s'.heap := by
      rw [← hs]
      exact sky
    refine Sky.land Zc.steady hfr hf sky' fun h3 fl3 up3 => ?_
    have J3 := Inv.landed (s' := ⟨h3, s'.gens, s'.drawn, s'.toks, s'.os⟩) J nb fl3.1 (Heap.UpToSlots.trans up up3) os ag
    obtain ⟨oe3, vs3, he3, hz3, hd3⟩ := HandSPX.FlyingZ.there fl3
    have nfr : ¬ a ∈ (X.env :: X.outer).filterMap (·.frame) := fun hm => by
      obtain ⟨_, o', e', hnf⟩ := Heap.FunFrames.mem fl3.2.2.1 hm
      rw [he3] at e'
      cases e'
      exact hnf vs3 hd3
    have nL : a ≠ X.env.locals := fun z => nfr (List.mem_filterMap.mpr ⟨X.env, List.mem_cons_self, by rw [hf, z]⟩)
    have nF : ¬ a ∈ X.fs := fun hm => by
      obtain ⟨e, he, q⟩ := List.mem_filterMap.mp hm
      exact nfr (List.mem_filterMap.mpr ⟨e, List.mem_cons_of_mem _ he, q⟩)
    have S3 := Inv.suite J3 he3 hd3 na nL nF
    have go : ∀ {hds' : List ExceptHandler} {l' : List (Value × Option Nat × TSu)}, HdsM X hds' l' → wMix X.K Wout D l' cls d σ' H' → wpAny (model X.prog X.w) X.A (handleBy (.ref a) X.env hds') (SP X pins D) X.xe ⟨h3, s'.gens, s'.drawn, s'.toks, s'.os⟩ := by
      intro hds' l' hk
      induction hk with
      | nil =>
        intro w
        refine wpAny_handleBy_nil ?_
        have fl3' := fl3
        obtain ⟨k1, k2, k3, oe, vs, T, oT, ts', he, hz, hd, h1, hr⟩ := fl3'
        unfold PySem.passOn
        refine wpAny_bind (wpAny_field he hd h1 ?_)
        rw [if_neg (by simp)]
        refine wpAny_bind ?_
        rw [hf]
        exact HandSPX.setFlight_upZ fl3 fun h4 hh4 up4 => wpAny_throw (tk (.ref a) _ ⟨a, B, sI, pins, σ', H', cls, d, rfl, J, nb, Heap.UpToSlots.trans (Heap.UpToSlots.trans up up3) up4, Or.inr (Or.inr (by rw [hs]; exact hh4)), na, os, ag, w⟩)
      | only hc hsu r ih =>
        intro w
        obtain ⟨b, hb1, hyes, hno⟩ := w
        refine wpAny_handleBy_cons (codeAny_handlers_test ?_) (fun q => by cases q)
        have LM := W.exm_one (M := model X.prog X.w) (e := a) (Inv.kIn J3) (fun A Q E s k q => wpAny_typeOf_ref (k a oe3 he3) (by rw [hz3.1]; exact q)) hb1
        refine nm_eval S3 hc ?_
        refine W.Looks.here LM ?_
        cases b with
        | false => exact ih (hno rfl)
        | true =>
          refine codeAny_handlers_suite (HandSPX.lands_againZ fl3 fun h4 fl4 up4 => ?_)
          have J4 := Inv.landed (s' := ⟨h4, s'.gens, s'.drawn, s'.toks, s'.os⟩) J nb fl4.1 (Heap.UpToSlots.trans (Heap.UpToSlots.trans up up3) up4) os ag
          obtain ⟨oe4, vs4, he4, hz4, hd4⟩ := HandSPX.FlyingZ.there fl4
          have S4 := Inv.suite J4 he4 hd4 na nL nF
          refine wpAny_mono ((hsu a oe4 cls d (X.pn ++ pins) hz4 ⟨vs4, hd4⟩).run [] _ σ' H' D S4 (hyes rfl a na)) (fun f s6 hsp => ?_) (fun x s6 z => z.elim)
          cases f with
          | next =>
            obtain ⟨σ6, H6, S6, q6⟩ := hsp
            exact ⟨σ6, H6, Inv.unsuite S6 ok, q6⟩
          | brk =>
            obtain ⟨σ6, H6, S6, q6⟩ := hsp
            exact ⟨σ6, H6, Inv.unsuite S6 ok, q6⟩
          | cont =>
            obtain ⟨σ6, H6, S6, q6⟩ := hsp
            exact ⟨σ6, H6, Inv.unsuite S6 ok, q6⟩
          | ret u =>
            obtain ⟨v6, σ6, H6, S6, r6, q6⟩ := hsp
            exact ⟨v6, σ6, H6, Inv.unsuite S6 ok, r6, q6⟩
      | as hc hi hln hsu r ih =>
        intro w
        obtain ⟨b, hb1, hyes, hno⟩ := w
        refine wpAny_handleBy_cons (codeAny_handlers_test ?_) (fun q => by cases q)
        have LM := W.exm_one (M := model X.prog X.w) (e := a) (Inv.kIn J3) (fun A Q E s k q => wpAny_typeOf_ref (k a oe3 he3) (by rw [hz3.1]; exact q)) hb1
        refine nm_eval S3 hc ?_
        refine W.Looks.here LM ?_
        cases b with
        | false => exact ih (hno rfl)
        | true =>
          refine codeAny_handlers_suite_as (HandSPX.lands_againZ fl3 fun h4 fl4 up4 => ?_)
          have J4 := Inv.landed (s' := ⟨h4, s'.gens, s'.drawn, s'.toks, s'.os⟩) J nb fl4.1 (Heap.UpToSlots.trans (Heap.UpToSlots.trans up up3) up4) os ag
          obtain ⟨oe4, vs4, he4, hz4, hd4⟩ := HandSPX.FlyingZ.there fl4
          have S4 := Inv.suite J4 he4 hd4 na nL nF
          refine store_ok (X := X.suite a ((a, oe4) :: (X.pn ++ pins))) (v := V.ref a) S4 hN hi (Or.inl hln) rfl (fun s5 S5 => ?_) (Or.inr hln)
          refine wpAny_mono ((hsu a oe4 cls d (X.pn ++ pins) hz4 ⟨vs4, hd4⟩).run [] s5 _ H' _ S5 (hyes rfl a na)) (fun f s6 hsp => ?_) (fun x s6 z => z.elim)
          cases f with
          | next =>
            obtain ⟨σ6, H6, S6, q6⟩ := hsp
            exact gone_ok (Inv.unsuite S6 ok) hN hi hln fun s7 J7 => ⟨_, H6, J7, q6⟩
          | brk =>
            obtain ⟨σ6, H6, S6, q6⟩ := hsp
            exact gone_ok (Inv.unsuite S6 ok) hN hi hln fun s7 J7 => ⟨_, H6, J7, q6⟩
          | cont =>
            obtain ⟨σ6, H6, S6, q6⟩ := hsp
            exact gone_ok (Inv.unsuite S6 ok) hN hi hln fun s7 J7 => ⟨_, H6, J7, q6⟩
          | ret u =>
            obtain ⟨v6, σ6, H6, S6, r6, q6⟩ := hsp
            exact gone_ok (Inv.unsuite S6 ok) hN hi hln fun s7 J7 => ⟨v6, _, H6, J7, r6, q6⟩
    exact go hh w
  · cases f with
    | next =>
      obtain ⟨σ', H', J', q⟩ := hsp
      exact wpAny_execs_nil ⟨σ', H', Inv.ofTry J' ok, q⟩
    | brk =>
      obtain ⟨σ', H', J', q⟩ := hsp
      exact ⟨σ', H', Inv.ofTry J' ok, q⟩
    | cont =>
      obtain ⟨σ', H', J', q⟩ := hsp
      exact ⟨σ', H', Inv.ofTry J' ok, q⟩
    | ret u =>
      obtain ⟨v, σ', H', J', r, q⟩ := hsp
      exact ⟨v, σ', H', Inv.ofTry J' ok, r, q⟩
end RT

set_option maxRecDepth 100000
set_option maxHeartbeats 4000000

namespace RT
open PySem PySem.Spec PyProof.Rows L2
section
variable {X : Cx} {Wx : WX} {pos : Pos}
def suRun (oi : Option Nat) (t : XSu) (x : Str) (d : Dt) (E : DOEnds) (m1 : M) (os1 : OS) : Prop := match oi with
  | none => ∀ a bd : Addr, t a bd os1 ⟨fun m' => E.nx m' os1, fun v m' => E.rt v m' os1, fun m' => E.bk m' os1, fun m' => E.ct m' os1⟩ m1
  | some i => i < m1.sl.length ∧ ∀ a bd : Addr, t a bd ((m1.st.length, .exc a ((fldOf x).map (bd, ·)) d) :: os1) ⟨fun m' => E.nx ⟨m'.sl.set i none, m'.st⟩ os1, fun v m' => E.rt v ⟨m'.sl.set i none, m'.st⟩ os1, fun m' => E.bk ⟨m'.sl.set i none, m'.st⟩ os1, fun m' => E.ct ⟨m'.sl.set i none, m'.st⟩ os1⟩
    ⟨m1.sl.set i (some (.c m1.st.length)), m1.st ++ [.dead]⟩
abbrev HdL := List (Option Nat × List (Str × XSu))
def xTryM (b : DSO) (hs : HdL) : DSO := fun Ex E m os => b (fun x d m1 os1 => ∃ p ∈ hs, ∃ t, (x, t) ∈ p.2 ∧ suRun p.1 t x d E m1 os1) E m os
def HitX (K : PySem.W.Frag) (l : List (Str × XSu)) (cy : Value) : Prop := ∀ x t, (x, t) ∈ l → ∀ v, PySem.W.nsIn K mainGlobals x = some (some v) → PySem.W.exmOne K v cy = some true
def MissX (K : PySem.W.Frag) (hs : HdL) (cy : Value) : Prop := ∀ p ∈ hs, ∀ x t, (x, t) ∈ p.2 → ∀ v, PySem.W.nsIn K mainGlobals x = some (some v) → PySem.W.exmOne K v cy = some false
inductive HdO (X : Cx) : List ExceptHandler → HdL → Prop
  | nil : HdO X [] []
  | only {y : Str} {cy : Value} {l : List (Str × XSu)} {b₀ : Stmt} {suite : List Stmt} {np pos' : Pos} {hds : List ExceptHandler} {hs : HdL} : Names X y cy → HitX X.K l cy → MissX X.K hs cy →
    (∀ (a bd : Addr) (oe : Obj) (pn : List (Addr × Obj)) (x : Str) (t : XSu) (os : OS), (x, t) ∈ l → @JSs (gho X.K os) (X.suite a ((a, oe) :: pn)) (b₀ :: suite) (t a bd os)) → HdO X hds hs →
    HdO X (.ExceptHandler (some (.Name y np)) none (b₀ :: suite) pos' :: hds) ((none, l) :: hs)
  | as {y n : Str} {cy : Value} {i : Nat} {l : List (Str × XSu)} {b₀ : Stmt} {suite : List Stmt} {np pos' : Pos} {hds : List ExceptHandler} {hs : HdL} : Names X y cy → X.N[i]? = some n → X.env.kindOf n = some .local → HitX X.K l cy → MissX X.K hs cy →
    (∀ (a bd : Addr) (oe : Obj) (pn : List (Addr × Obj)) (x : Str) (t : XSu) (v : Value) (os : OS), (x, t) ∈ l → PySem.W.nsIn X.K mainGlobals x = some (some v) → Zc v ((fldOf x).map fun _ => bd) oe → (∃ vs, oe.data = .fields vs) → @JSs (gho X.K os) (X.suite a ((a, oe) :: pn)) (b₀ :: suite) (t a bd os)) → HdO X hds hs →
    HdO X (.ExceptHandler (some (.Name y np)) (some n) (b₀ :: suite) pos' :: hds) ((some i, l) :: hs)
theorem hd_go {hds : List ExceptHandler} {hs : HdL} (h : HdO X hds hs) : ∃ l, HdsM X hds l ∧ ∀ {W F F1 W1 : Hp} {A A1 : List Addr} {E : DOEnds} {D : Ends} {m1 : M} {os1 : OS} {σ1 : L2.St} {H1 : Hp} {x : Str} {d : Dt} {v : Value} {dd : Option Addr}, ContsO X.K W F A E D → Same F F1 → A <+: A1 → GoodO X.K W F1 A1 m1 os1 σ1 H1 W1 → XFld X.K W1 F1 H1 x d dd →
    PySem.W.nsIn X.K mainGlobals x = some (some v) → (∃ p ∈ hs, ∃ t, (x, t) ∈ p.2 ∧ suRun p.1 t x d E m1 os1) → wMix X.K Wx D l v dd σ1 H1 := by
  induction h with
  | nil => exact ⟨[], .nil, fun _ _ _ _ _ _ ⟨p, hp, _⟩ => nomatch hp⟩
  | @only y cy l b₀ suite np pos' hds hs hc hit miss hsu r ih =>
    obtain ⟨L, hL, go⟩ := ih
    let ts : TSu := fun a cls d D σ H => ∃ (x : Str) (t : XSu) (os : OS) (bd : Addr), (x, t) ∈ l ∧ @liftS (gho X.K os) X.K (t a bd os) D σ H
    refine ⟨(cy, none, ts) :: L, .only hc (fun a oe cls d pn hz hf => ⟨fun pins s σ H D I ⟨x, t, os, bd, hmem, h⟩ => (hsu a bd oe pn x t os hmem).run pins s σ H D I h⟩) hL, ?_⟩
    intro W F F1 W1 A A1 E D m1 os1 σ1 H1 x d v dd c s1 p1 G1 xf ev hp
    obtain ⟨p, hp, t, hmem, q⟩ := hp
    rcases List.mem_cons.mp hp with rfl | hp
    · refine ⟨true, hit x t hmem v ev, fun _ a na => ⟨x, t, os1, 0, hmem, ?_⟩, fun z => by cases z⟩
      letI : Ghost := gho X.K os1
      exact ⟨W1, F1, A1, _, _, G1.G, q a 0, ⟨fun F2 A2 m2 σ2 H2 s2 p2 g q2 => c.nx F2 A2 m2 os1 σ2 H2 W1 (s1.trans s2) (pre_trans p1 p2) (G1.next p2 g) q2, fun F2 A2 m2 σ2 H2 v2 u2 s2 p2 g r2 q2 => c.rt F2 A2 m2 os1 σ2 H2 W1 v2 u2 (s1.trans s2) (pre_trans p1 p2) (G1.next p2 g) r2 q2,
        fun F2 A2 m2 σ2 H2 s2 p2 g q2 => c.bk F2 A2 m2 os1 σ2 H2 W1 (s1.trans s2) (pre_trans p1 p2) (G1.next p2 g) q2, fun F2 A2 m2 σ2 H2 s2 p2 g q2 => c.ct F2 A2 m2 os1 σ2 H2 W1 (s1.trans s2) (pre_trans p1 p2) (G1.next p2 g) q2⟩⟩
    · exact ⟨false, miss p hp x t hmem v ev, fun z => (by cases z), fun _ => go c s1 p1 G1 xf ev ⟨p, hp, t, hmem, q⟩⟩
  | @as y n cy i l b₀ suite np pos' hds hs hc hi hln hit miss hsu r ih =>
    obtain ⟨L, hL, go⟩ := ih
    let ts : TSu := fun a cls d D σ H => ∃ (x : Str) (t : XSu) (os : OS) (bd : Addr), (x, t) ∈ l ∧ PySem.W.nsIn X.K mainGlobals x = some (some cls) ∧ d = (fldOf x).map (fun _ => bd) ∧ @liftS (gho X.K os) X.K (t a bd os) D σ H
    refine ⟨(cy, some i, ts) :: L, .as hc hi hln (fun a oe cls d pn hz hf => ⟨fun pins s σ H D I ⟨x, t, os, bd, hmem, hv, hd, h⟩ => by
      subst hd
      exact (hsu a bd oe pn x t cls os hmem hv hz hf).run pins s σ H D I h⟩) hL, ?_⟩
    intro W F F1 W1 A A1 E D m1 os1 σ1 H1 x d v dd c s1 p1 G1 xf ev hp
    obtain ⟨p, hp, t, hmem, q⟩ := hp
    rcases (List.mem_cons.mp hp).symm with hp | rfl
    · exact ⟨false, miss p hp x t hmem v ev, fun z => (by cases z), fun _ => go c s1 p1 G1 xf ev ⟨p, hp, t, hmem, q⟩⟩
    obtain ⟨hil, q⟩ := q
    refine ⟨true, hit x t hmem v ev, fun _ a na => ?_, fun z => by cases z⟩
    -- the state in which the suite begins
    have hN1 : m1.st.length = A1.length := by
      obtain ⟨_, _, g⟩ := G1
      obtain ⟨_, _, _, _, _, l, _⟩ := g
      exact l.symm
    have nlk : os1.lookup m1.st.length = none ∨ ∃ o, os1.lookup m1.st.length = some o := by
      cases z : os1.lookup m1.st.length with
      | none => exact .inl rfl
      | some o => exact .inr ⟨o, rfl⟩
    have free : os1.lookup m1.st.length = none := by
      rcases nlk with z | ⟨o, z⟩
      · exact z
      · have at0 : A1[m1.st.length]? = none := by rw [hN1]; simp
        cases o with
        | obj c' fs =>
          obtain ⟨a0, _, _, _, g1, _⟩ := (Good.ghp G1.G).ob _ _ _ z
          rw [at0] at g1
          cases g1
        | exc a' dd' d' =>
          obtain ⟨g1, _⟩ := (Good.ghp G1.G).ex _ _ _ _ z
          rw [at0] at g1
          cases g1
    have pr : A1 <+: A1 ++ [a] := ⟨[a], rfl⟩
    have an : (A1 ++ [a])[m1.st.length]? = some a := by rw [hN1]; simp
    have ho : (gho X.K os1).p = OsOk X.K os1 := rfl
    let G2 := @Good.ptr (gho X.K os1) _ _ _ _ _ _ _ a G1.G
    -- the exception's dict
    obtain ⟨bd, W2, sW2, hd, hrel, G3⟩ : ∃ (bd : Addr) (W2 : Hp), Same W1 W2 ∧ dd = (fldOf x).map (fun _ => bd) ∧ (∀ b f, (fldOf x).map (bd, ·) = some (b, f) → ∃ u, W2 b = some (.xd [(f, u)]) ∧ Rep X.K F1 d u) ∧ @Good (gho X.K os1) X.K W2 F1 (A1 ++ [a]) ⟨m1.sl, m1.st ++ [.dead]⟩ σ1 H1 := by
      unfold XFld at xf
      cases hf : fldOf x with
      | none =>
        rw [hf] at xf
        exact ⟨0, W1, Same.refl _, xf, fun b f z => by simp at z, G2⟩
      | some f =>
        rw [hf] at xf
        obtain ⟨b, u, rfl, hb1, ru, nF, nW⟩ := xf
        refine ⟨b, upd W1 b (.xd [(f, u)]), same_upd nW, rfl, fun b' f' z => ?_, @Good.addW (gho X.K os1) _ _ _ _ _ _ _ _ _ G2 hb1 nF nW⟩
        simp at z
        obtain ⟨rfl, rfl⟩ := z
        exact ⟨u, upd_same, ru⟩
    have G4 := @Good.store (gho X.K os1) _ _ _ _ _ _ _ i (.c m1.st.length) (.ref a) G3 ⟨a, an, rfl⟩
    let osx : OS := (m1.st.length, .exc a ((fldOf x).map (bd, ·)) d) :: os1
    have ghx : OsOk X.K osx W2 F1 (A1 ++ [a]) := by
      have h0 := OsOk.mono (Good.ghp G1.G) (SameO.of sW2) (Same.refl F1) pr
      have sk : ∀ k o, osx.lookup k = some o → (k = m1.st.length ∧ o = .exc a ((fldOf x).map (bd, ·)) d) ∨ (os1.lookup k = some o) := fun k o e => by
        by_cases hk : k = m1.st.length
        · subst hk
          have e' : some (OCell.exc a ((fldOf x).map (bd, ·)) d) = some o := by
            simpa [osx, List.lookup] using e
          exact .inl ⟨rfl, (Option.some.inj e').symm⟩
        · have hb : (k == m1.st.length) = false := by simpa using hk
          exact .inr (by simpa [osx, List.lookup, hb] using e)
      refine ⟨fun k c' fs e => ?_, fun k a' dd' d' e => ?_, fun j k c1 f1 c2 f2 b e1 e2 p1 p2 => ?_⟩
      · rcases sk k _ e with ⟨_, z⟩ | z
        · cases z
        · exact h0.ob k c' fs z
      · rcases sk k _ e with ⟨rfl, z⟩ | z
        · cases z
          exact ⟨an, hrel⟩
        · exact h0.ex k a' dd' d' z
      · rcases sk j _ e1 with ⟨_, z⟩ | z1
        · cases z
        · rcases sk k _ e2 with ⟨_, z⟩ | z2
          · cases z
          · exact h0.nd j k c1 f1 c2 f2 b z1 z2 p1 p2
    have G5 : @Good (gho X.K osx) X.K W2 F1 (A1 ++ [a]) ⟨m1.sl.set i (some (.c m1.st.length)), m1.st ++ [.dead]⟩ (σ1.set i (some (.ref a))) H1 := G4.regh ghx
    refine ⟨x, t, osx, bd, hmem, ev, hd, ?_⟩
    letI : Ghost := gho X.K osx
    refine ⟨W2, F1, A1 ++ [a], _, _, G5, q a bd, ⟨fun F2 A2 m2 σ2 H2 s2 p2 g q2 => ?_, fun F2 A2 m2 σ2 H2 v2 u2 s2 p2 g r2 q2 => ?_, fun F2 A2 m2 σ2 H2 s2 p2 g q2 => ?_, fun F2 A2 m2 σ2 H2 s2 p2 g q2 => ?_⟩⟩
    · exact c.nx F2 A2 _ os1 _ H2 W2 (s1.trans s2) (pre_trans p1 (pre_trans pr p2)) (GoodO.unsuite G1 sW2 s2 (pre_trans pr p2) g i) q2
    · exact c.rt F2 A2 _ os1 _ H2 W2 v2 u2 (s1.trans s2) (pre_trans p1 (pre_trans pr p2)) (GoodO.unsuite G1 sW2 s2 (pre_trans pr p2) g i) r2 q2
    · exact c.bk F2 A2 _ os1 _ H2 W2 (s1.trans s2) (pre_trans p1 (pre_trans pr p2)) (GoodO.unsuite G1 sW2 s2 (pre_trans pr p2) g i) q2
    · exact c.ct F2 A2 _ os1 _ H2 W2 (s1.trans s2) (pre_trans p1 (pre_trans pr p2)) (GoodO.unsuite G1 sW2 s2 (pre_trans pr p2) g i) q2
theorem so_tryM {body : List Stmt} {h₀ : ExceptHandler} {hds : List ExceptHandler} {b : DSO} {hs : HdL} (h1 : X.stack = X.env :: X.outer) (h2 : X.env.frame = some X.env.locals) (hN : X.N.Nodup) (tk : Takes X Wx)
    (hb : ∀ (W : WX) (pn : List (Addr × Obj)) (xe : Value → Shared → Prop), Takes (X.tr pn xe) W → PassesOwn (model X.prog X.w) X.A X.env xe → JSOs (X.tr pn xe) W body b) (hh : HdO X (h₀ :: hds) hs) :
    JSO X Wx (.Try body (h₀ :: hds) [] [] pos) (xTryM b hs) := by
  obtain ⟨l, hL, go⟩ := hd_go (Wx := Wx) hh
  refine (ps_try_mix (tb := fun W => liftSO X.K W b) (Wout := Wx) h1 h2 hN tk hb hL).imp fun D σ H hh => ?_
  obtain ⟨W, F, A, m, os, W', E, Ex, G, h, c, cx⟩ := hh
  exact ⟨W, F, A, m, os, W', E, _, G, h, c, fun F1 A1 m1 os1 σ1 H1 W1 x d v dd s1 p1 G1 xf ev q => go c s1 p1 G1 xf ev q⟩
end
end RT

set_option maxRecDepth 100000
set_option maxHeartbeats 4000000

namespace RT
open PySem PySem.Spec PyProof.Rows L2
end RT

set_option maxRecDepth 100000
set_option maxHeartbeats 4000000

namespace RT
open PySem PySem.Spec PyProof.Rows L2
section
variable {X : Cx} {Wx : WX} {pos : Pos}
end
end RT

set_option maxRecDepth 100000
set_option maxHeartbeats 4000000

namespace RT
open PySem PySem.Spec PyProof.Rows L2
def exnB (K : PySem.W.Frag) (x y : Str) : Bool := match PySem.W.nsIn K mainGlobals x, PySem.W.nsIn K mainGlobals y with
  | some (some cx), some (some cy) => PySem.W.exmOne K cx cy == some false
  | _, _ => false
def ExnG (K : PySem.W.Frag) (mg : Str → Option Value) (x y : Str) : Prop := ∃ cy, mg y = some cy ∧ ∀ v, PySem.W.nsIn K mainGlobals x = some (some v) → PySem.W.exmOne K v cy = some false
theorem exnG_of {K : PySem.W.Frag} {h : Heap} {mg : Str → Option Value} {x y : Str} (X : K.In h) (G : h.Ns mainGlobals mg) (c : exnB K x y = true) : ExnG K mg x y := by
  unfold exnB at c
  split at c
  · rename_i cx cy e1 e2
    refine ⟨cy, PySem.W.mg_of X G e2, fun v hv => ?_⟩
    rw [e1] at hv
    cases hv
    exact beq_iff_eq.mp c
  · cases c
theorem ExnG.at {K : PySem.W.Frag} {mg : Str → Option Value} {x y : Str} {cy : Value} (E : ExnG K mg x y) (h : mg y = some cy) : ∀ v, PySem.W.nsIn K mainGlobals x = some (some v) → PySem.W.exmOne K v cy = some false := by
  obtain ⟨c, e, f⟩ := E
  rw [h] at e
  cases e
  exact f
section
variable [Gh : Ghost]
variable {X : Cx} {e : Expr} {te : DE} {p p2 pos pos2 : Pos}
end
end RT

set_option maxRecDepth 100000
set_option maxHeartbeats 4000000

namespace RT
open PySem PySem.Spec PyProof.Rows L2
section
variable {X : Cx}
theorem m_pop : MetD X "list.pop" mPop := ⟨_, mt_pop, fun F H a xs ys vs us P Q hH r r' q c => by
  unfold mPop at q
  split at q
  · have q' := q
    unfold onO at q'
    cases e : xs.getLast? with
    | none => rw [e] at q'; exact q'.elim
    | some y =>
      rw [e] at q'
      rw [List.getLast?_eq_getElem?] at e
      obtain ⟨v, hv, rv⟩ := r.get e
      simp only [Reps] at r'
      exact ⟨a, vs, v, rfl, r', hH, by rw [← r.length]; exact hv, c _ _ _ _ r.dropLast rv q'⟩
  · exact q.elim⟩
end
section
variable {X : Cx} {Wx : WX} {pos : Pos} {a b : Expr} {rest es : List Expr} {t u : DTO}
def xAnd (t u : DTO) : DTO := fun Ex m os Q => t Ex m os fun b m1 os1 => if b = true then u Ex m1 os1 Q else Q false m1 os1
def xTup (ts : DAO) : DEO := fun Ex m os Q => ts Ex m os fun vs m1 os1 => vs.length ≤ sizeLine ∧ onDs vs fun xs => Q (.d (.tup xs)) m1 os1
def xLst (ts : DAO) : DEO := fun Ex m os Q => ts Ex m os fun vs m1 os1 => vs.length ≤ sizeLine ∧ onDs vs fun xs => Q (.d (.lst xs)) m1 os1
theorem eo_tup {k} {ts : DAO} (h : JAO X Wx es ts) : JEO X Wx (.Tuple es k pos) (xTup ts) := (pe_tup h).imp fun σ H Q hh => by
  obtain ⟨W, F, A, m, os, W', Qd, Ex, G, h, c, cx⟩ := hh
  refine ⟨W, F, A, m, os, W', _, Ex, G, h, fun F1 A1 vs m1 os1 H1 W1 s1 p1 G1 q1 us r1 => ⟨by rw [← r1.length]; exact q1.1, fun p np => ?_⟩, cx⟩
  obtain ⟨xs, rfl, q⟩ := onDs_elim q1.2
  letI : Ghost := gho X.K os1
  have g1 : Good X.K W1 F1 A1 m1 σ H1 := G1.G
  have s2 := same_upd (o := .tup us) (g1.ext.free np)
  refine c (upd F1 p (.tup us)) A1 _ m1 os1 _ W1 (s1.trans s2) p1 (G1.next (pre_refl _) (g1.laid np)) q _ ?_
  show Rep X.K _ (.tup xs) _
  simp only [Rep]
  exact ⟨p, us, rfl, SqT.of upd_same, Reps.mono s2 (reps_of r1)⟩
theorem eo_lst {ts : DAO} (h : JAO X Wx es ts) : JEO X Wx (.List es pos) (xLst ts) := (pe_lst h).imp fun σ H Q hh => by
  obtain ⟨W, F, A, m, os, W', Qd, Ex, G, h, c, cx⟩ := hh
  refine ⟨W, F, A, m, os, W', _, Ex, G, h, fun F1 A1 vs m1 os1 H1 W1 s1 p1 G1 q1 us r1 => ⟨by rw [← r1.length]; exact q1.1, fun p np => ?_⟩, cx⟩
  obtain ⟨xs, rfl, q⟩ := onDs_elim q1.2
  letI : Ghost := gho X.K os1
  have g1 : Good X.K W1 F1 A1 m1 σ H1 := G1.G
  have s2 := same_upd (o := .lst us) (g1.ext.free np)
  refine c (upd F1 p (.lst us)) A1 _ m1 os1 _ W1 (s1.trans s2) p1 (G1.next (pre_refl _) (g1.laid np)) q _ ?_
  show Rep X.K _ (.lst xs) _
  simp only [Rep]
  exact ⟨p, us, rfl, Rd.of upd_same, Reps.mono s2 (reps_of r1)⟩
end
end RT

set_option maxRecDepth 100000
set_option maxHeartbeats 4000000

namespace RT
open PySem PySem.Spec PyProof.Rows L2
def isBl : Dt → Bool → Bool
  | .bl a, b => decide (a = b)
  | _, _ => false
section
variable [Gh : Ghost]
variable {X : Cx}
end
end RT

set_option maxRecDepth 100000
set_option maxHeartbeats 4000000

namespace RT
open PySem PySem.Spec PyProof.Rows L2
abbrev Prs := List (Nat × Dt)
structure PP (K : PySem.W.Frag) (W0 F : Hp) (A : List Addr) (kg : Nat) (ps : Prs) (W1 : Hp) : Prop where
  ex : ∃ (g0 : Addr) (qs : List Addr), A[kg]? = some g0 ∧ Same W0 W1 ∧ W1 g0 = some (.lst (qs.map V.ref)) ∧ W0 g0 = none ∧ qs.length = ps.length ∧ (g0 :: qs).Nodup ∧
    ∀ (i : Nat) (q : Addr) (k : Nat) (d : Dt), qs[i]? = some q → ps[i]? = some (k, d) → W0 q = none ∧ ∃ (b : Addr) (v : V), A[k]? = some b ∧ Rep K F d v ∧ W1 q = some (.lst [.ref b, v])
section
variable {K : PySem.W.Frag} {W W0 W1 F F' H W' : Hp} {A A' : List Addr} {kg : Nat} {ps : Prs} {m : M} {os : OS} {σ : L2.St}
theorem PP.mono (P : PP K W0 F A kg ps W1) (s : Same F F') (p : A <+: A') : PP K W0 F' A' kg ps W1 := by
  obtain ⟨⟨g0, qs, h1, h2, h3, h4, h5, h6, h7⟩⟩ := P
  refine ⟨⟨g0, qs, pre_get p h1, h2, h3, h4, h5, h6, fun i q k d e1 e2 => ?_⟩⟩
  obtain ⟨n, b, v, q1, q2, q3⟩ := h7 i q k d e1 e2
  exact ⟨n, b, v, pre_get p q1, Rep.mono s q2, q3⟩
theorem PP.same (P : PP K W0 F A kg ps W1) : Same W0 W1 := by
  obtain ⟨⟨g0, qs, h1, h2, _⟩⟩ := P
  exact h2
theorem GoodO.weak (G : GoodO K W1 F A m os σ H W') (s : Same W0 W1) : GoodO K W0 F A m os σ H W' :=
  ⟨s.trans G.sW, fun k c fs a e h => s.free (G.out k c fs a e h), G.G⟩
theorem GoodO.sees (G : GoodO K W F A m os σ H W') {a : Addr} {o : HO} (e : W a = some o) : H a = some o := by
  obtain ⟨sW, _, g⟩ := G
  obtain ⟨_, hid, _⟩ := g
  exact hid _ _ (sW _ _ e)
theorem GoodO.slot (G : GoodO K W F A m os σ H W') {i : Nat} {v : Vl} (e : m.sl[i]? = some (some v)) : ∃ u, σ[i]? = some (some u) ∧ RepV K F A v u := by
  obtain ⟨_, _, g⟩ := G
  obtain ⟨_, _, _, _, sl, _⟩ := g
  exact sl i v e
theorem GoodO.lenA (G : GoodO K W F A m os σ H W') : A.length = m.st.length := by
  obtain ⟨_, _, g⟩ := G
  obtain ⟨_, _, _, _, _, l, _⟩ := g
  exact l
theorem GoodO.hid1 {q : Addr} {o : HO} (G : GoodO K W F A m os σ H W') (n : H q = none) : GoodO K (upd W q o) F A m os σ (upd H q o) (upd W' q o) := by
  have ok := Good.ghp G.G
  obtain ⟨sW, out, g⟩ := G
  obtain ⟨ext, hid, dj, slen, sl, len, st, nd, tb, _⟩ := g
  have wq : W' q = none := hid.free n
  refine ⟨same_upd2 sW, fun k c fs a e h => ?_, @Good.mk (gho K os) _ _ _ _ _ _ _ (ext.trans (same_upd n)) (same_upd2 hid) (fun b x e => ?_) slen sl len (fun k xs e => ?_) nd (fun p hp => ?_) (OsOk.mono ok (SameO.of (same_upd wq)) (Same.refl _) (pre_refl _))⟩
  · obtain ⟨a0, C, dx, us, g1, g2, _⟩ := ok.ob k c fs e
    rw [h] at g1
    cases g1
    rw [upd_ne (fun z => by rw [z, wq] at g2; cases g2)]
    exact out k c fs a e h
  · by_cases hb : b = q
    · rw [hb]
      exact ext.free n
    · rw [upd_ne hb] at e
      exact dj b x e
  · obtain ⟨a, vs, h1, h2, h3, h4, h5⟩ := st k xs e
    have ne : a ≠ q := ne_of_none h2 n
    exact ⟨a, vs, h1, by rw [upd_ne ne]; exact h2, h3, h4, by rw [upd_ne ne]; exact h5⟩
  · obtain ⟨t1, t2, t3⟩ := tb p hp
    exact ⟨tab_upd t1 n, t2, by rw [upd_ne (tab_some t1 n)]; exact t3⟩
theorem GoodO.hset {g : Addr} {rs ts : List V} (G : GoodO K W F A m os σ H W') (e : W g = some (.lst rs)) : GoodO K (upd W g (.lst ts)) F A m os σ (upd H g (.lst ts)) (upd W' g (.lst ts)) := by
  have ok := Good.ghp G.G
  have hg := G.sees e
  obtain ⟨sW, out, gg⟩ := G
  obtain ⟨ext, hid, dj, slen, sl, len, st, nd, tb, _⟩ := gg
  have wg : W' g = some (.lst rs) := sW _ _ e
  have fg : F g = none := dj _ _ wg
  refine ⟨same_upd2 sW, fun k c fs a e1 h => ?_, @Good.mk (gho K os) _ _ _ _ _ _ _ (fun b x q => ?_) (same_upd2 hid) (fun b x q => ?_) slen sl len (fun k xs q => ?_) nd (fun p hp => ?_) (OsOk.mono ok (fun a o k e1 => ?_) (Same.refl _) (pre_refl _))⟩
  · have := out k c fs a e1 h
    rw [upd_ne (fun z => by rw [z, e] at this; cases this)]
    exact this
  · rw [upd_ne (fun z => by rw [z, fg] at q; cases q)]
    exact ext _ _ q
  · by_cases hb : b = g
    · rw [hb]
      exact fg
    · rw [upd_ne hb] at q
      exact dj b x q
  · obtain ⟨a, vs, h1, h2, h3, h4, h5⟩ := st k xs q
    have ne : a ≠ g := fun z => by rw [z, wg] at h5; cases h5
    exact ⟨a, vs, h1, by rw [upd_ne ne]; exact h2, h3, h4, by rw [upd_ne ne]; exact h5⟩
  · obtain ⟨t1, t2, t3⟩ := tb p hp
    have ne : p.2 ≠ g := fun z => by rw [z, wg] at t3; cases t3
    exact ⟨tab_lst t1 hg, t2, by rw [upd_ne ne]; exact t3⟩
  · have ne : a ≠ g := fun z => by
      rw [z, wg] at e1
      cases e1
      exact k.elim
    rw [upd_ne ne]
    exact e1
theorem GoodO.ptr (a : Addr) (G : GoodO K W F A m os σ H W') : GoodO K W F (A ++ [a]) ⟨m.sl, m.st ++ [.dead]⟩ os σ H W' := G.next ⟨[a], rfl⟩ (@Good.ptr (gho K os) _ _ _ _ _ _ _ a G.G)
theorem GoodO.put1 {i : Nat} {v : Vl} {u : V} (G : GoodO K W F A m os σ H W') (r : RepV K F A v u) : GoodO K W F A ⟨m.sl.set i (some v), m.st⟩ os (σ.set i (some u)) H W' := G.next (pre_refl _) (@Good.store (gho K os) _ _ _ _ _ _ _ _ _ _ G.G r)

theorem PP.one {g0 q b : Addr} {v : V} {k : Nat} {d : Dt} (G : GoodO K W F A m os σ H W') (hg : A[kg]? = some g0) (n0 : W g0 = none) (nq : W q = none) (ne : g0 ≠ q) (hb : A[k]? = some b) (r : Rep K F d v) :
    PP K W F A kg [(k, d)] (upd (upd W q (.lst [.ref b, v])) g0 (.lst [.ref q])) := by
  refine ⟨⟨g0, [q], hg, ?_, upd_same, n0, rfl, ?_, fun i q' k' d' e1 e2 => ?_⟩⟩
  · exact (same_upd nq).trans (same_upd (by rw [upd_ne ne]; exact n0))
  · exact List.nodup_cons.mpr ⟨fun h => ne (List.mem_singleton.mp h), List.nodup_cons.mpr ⟨(fun h => by cases h), List.nodup_nil⟩⟩
  · cases i with
    | succ i => cases e1
    | zero =>
      cases e1
      cases e2
      exact ⟨nq, b, v, hb, r, by rw [upd_ne (Ne.symm ne), upd_same]⟩
theorem PP.push {q b : Addr} {v : V} {k : Nat} {d : Dt} (P : PP K W0 F A kg ps W1) (nq : W1 q = none) (hb : A[k]? = some b) (r : Rep K F d v) :
    ∃ g0 rs, A[kg]? = some g0 ∧ W1 g0 = some (.lst rs) ∧ rs.length = ps.length ∧ PP K W0 F A kg (ps ++ [(k, d)]) (upd (upd W1 q (.lst [.ref b, v])) g0 (.lst (rs ++ [.ref q]))) := by
  obtain ⟨⟨g0, qs, h1, h2, h3, h4, h5, h6, h7⟩⟩ := P
  have n0 : g0 ≠ q := fun z => by rw [z, nq] at h3; cases h3
  have wq : W0 q = none := by
    cases z : W0 q with
    | none => rfl
    | some o => rw [h2 _ _ z] at nq; cases nq
  have nin : q ∉ qs := fun hin => by
    obtain ⟨i, hi⟩ := List.getElem?_of_mem hin
    have hlt := (List.getElem?_eq_some_iff.mp hi).1
    rw [h5] at hlt
    obtain ⟨_, b', v', _, _, e⟩ := h7 i q ps[i].1 ps[i].2 hi (List.getElem?_eq_getElem hlt)
    rw [nq] at e
    cases e
  refine ⟨g0, qs.map V.ref, h1, h3, by rw [List.length_map, h5], ⟨g0, qs ++ [q], h1, ?_, ?_, h4, by rw [List.length_append, List.length_append, h5]; rfl, ?_, fun i q' k' d' e1 e2 => ?_⟩⟩
  · intro a o e
    have na : a ≠ g0 := fun z => by rw [z, h4] at e; cases e
    have na2 : a ≠ q := fun z => by rw [z, wq] at e; cases e
    rw [upd_ne na, upd_ne na2]
    exact h2 _ _ e
  · rw [upd_same, List.map_append]
    rfl
  · obtain ⟨c1, c2⟩ := List.nodup_cons.mp h6
    refine List.nodup_cons.mpr ⟨fun h => ?_, List.nodup_append.mpr ⟨c2, List.nodup_cons.mpr ⟨(fun h => by cases h), List.nodup_nil⟩, fun a ha b hb e => ?_⟩⟩
    · rcases List.mem_append.mp h with h | h
      · exact c1 h
      · exact n0 (List.mem_singleton.mp h)
    · rw [List.mem_singleton.mp hb] at e
      rw [e] at ha
      exact nin ha
  · by_cases hi : i < qs.length
    · rw [List.getElem?_append_left hi] at e1
      rw [List.getElem?_append_left (by rw [← h5]; exact hi)] at e2
      obtain ⟨n, b', v', q1, q2, q3⟩ := h7 i q' k' d' e1 e2
      have m1 : q' ≠ g0 := fun z => (List.nodup_cons.mp h6).1 (by rw [← z]; exact List.mem_of_getElem? e1)
      have m2 : q' ≠ q := fun z => nin (by rw [← z]; exact List.mem_of_getElem? e1)
      exact ⟨n, b', v', q1, q2, by rw [upd_ne m1, upd_ne m2]; exact q3⟩
    · have hl := (List.getElem?_eq_some_iff.mp e1).1
      rw [List.length_append, List.length_singleton] at hl
      have ei : i = qs.length := by omega
      subst ei
      rw [List.getElem?_append_right (Nat.le_refl _), Nat.sub_self] at e1
      rw [h5, List.getElem?_append_right (Nat.le_refl _), Nat.sub_self] at e2
      cases e1
      cases e2
      exact ⟨wq, b, v, hb, r, by rw [upd_ne (Ne.symm n0), upd_same]⟩
theorem PP.get {i k : Nat} {d : Dt} (P : PP K W0 F A kg ps W1) (e : ps[i]? = some (k, d)) : ∃ (g0 : Addr) (rs : List V) (q b : Addr) (v : V), A[kg]? = some g0 ∧ W1 g0 = some (.lst rs) ∧ rs.length = ps.length ∧ rs[i]? = some (.ref q) ∧ A[k]? = some b ∧ Rep K F d v ∧ W1 q = some (.lst [.ref b, v]) := by
  obtain ⟨⟨g0, qs, h1, h2, h3, h4, h5, h6, h7⟩⟩ := P
  have hlt := (List.getElem?_eq_some_iff.mp e).1
  rw [← h5] at hlt
  have hq := List.getElem?_eq_getElem hlt
  obtain ⟨n, b, v, q1, q2, q3⟩ := h7 i _ k d hq e
  exact ⟨g0, qs.map V.ref, qs[i], b, v, h1, h3, by rw [List.length_map, h5], by rw [List.getElem?_map, hq]; rfl, q1, q2, q3⟩
theorem PP.rows (P : PP K W0 F A kg ps W1) : ∃ (g0 : Addr) (rs : List V), A[kg]? = some g0 ∧ W1 g0 = some (.lst rs) ∧ rs.length = ps.length := by
  obtain ⟨⟨g0, qs, h1, h2, h3, h4, h5, h6, h7⟩⟩ := P
  exact ⟨g0, qs.map V.ref, h1, h3, by rw [List.length_map, h5]⟩
theorem PP.set {i k : Nat} {d d' : Dt} {q b : Addr} {g0 : Addr} {rs : List V} {v' : V} (P : PP K W0 F A kg ps W1) (e : ps[i]? = some (k, d)) (hg : A[kg]? = some g0) (hw : W1 g0 = some (.lst rs)) (hq : rs[i]? = some (.ref q)) (hb : A[k]? = some b) (r : Rep K F d' v') :
    PP K W0 F A kg (ps.set i (k, d')) (upd W1 q (.lst [.ref b, v'])) := by
  obtain ⟨⟨g1, qs, h1, h2, h3, h4, h5, h6, h7⟩⟩ := P
  rw [hg] at h1
  cases h1
  rw [hw] at h3
  cases h3
  have hlt := (List.getElem?_eq_some_iff.mp e).1
  have hlq : i < qs.length := by rw [h5]; exact hlt
  have eq' : qs[i]? = some q := by
    rw [List.getElem?_map] at hq
    cases z : qs[i]? with
    | none => rw [z] at hq; cases hq
    | some x => rw [z] at hq; cases hq; rfl
  have wq : W0 q = none := (h7 i q k d eq' e).1
  have nq : q ≠ g0 := fun z => (List.nodup_cons.mp h6).1 (by rw [← z]; exact List.mem_of_getElem? eq')
  refine ⟨⟨g0, qs, hg, ?_, by rw [upd_ne (Ne.symm nq)]; exact hw, h4, by rw [List.length_set, h5], h6, fun j q' k' d1 e1 e2 => ?_⟩⟩
  · intro a o e
    have na : a ≠ q := fun z => by rw [z, wq] at e; cases e
    rw [upd_ne na]
    exact h2 _ _ e
  · by_cases hj : i = j
    · subst hj
      rw [List.getElem?_set, if_pos rfl, if_pos hlt] at e2
      cases e2
      rw [eq'] at e1
      cases e1
      exact ⟨wq, b, v', hb, r, upd_same⟩
    · rw [List.getElem?_set, if_neg hj] at e2
      obtain ⟨n, b', u, q1, q2, q3⟩ := h7 j q' k' d1 e1 e2
      have m2 : q' ≠ q := fun z => hj (by
        have nd := (List.nodup_cons.mp h6).2
        have hj' := (List.getElem?_eq_some_iff.mp e1).1
        have a1 := (List.getElem?_eq_some_iff.mp e1).2
        have a2 := (List.getElem?_eq_some_iff.mp eq').2
        have key := List.pairwise_iff_getElem.mp nd
        rcases Nat.lt_trichotomy i j with h | h | h
        · exact absurd (a2.trans (z.symm.trans a1.symm)) (key i j hlq hj' h)
        · exact h
        · exact absurd (a1.trans (z.trans a2.symm)) (key j i hj' hlq h))
      exact ⟨n, b', u, q1, q2, by rw [upd_ne m2]; exact q3⟩
end

structure DGEnds where
  nx : Prs → M → OS → Prop
  rt : Vl → M → OS → Prop
abbrev DGO := EXO → DGEnds → Nat → Prs → M → OS → Prop
structure ContsG (K : PySem.W.Frag) (W0 F : Hp) (A : List Addr) (kg : Nat) (E : DGEnds) (D : Ends) : Prop where
  nx : ∀ F' A' m' os' σ' H' W1 W' ps', Same F F' → A <+: A' → GoodO K W1 F' A' m' os' σ' H' W' → PP K W0 F' A' kg ps' W1 → E.nx ps' m' os' → D.nx σ' H'
  rt : ∀ F' A' m' os' σ' H' W' v u, Same F F' → A <+: A' → GoodO K W0 F' A' m' os' σ' H' W' → RepV K F' A' v u → E.rt v m' os' → D.rt u H'
theorem ContsG.mono {K : PySem.W.Frag} {W F F' : Hp} {A A' : List Addr} {kg : Nat} {E : DGEnds} {D : Ends} (c : ContsG K W F A kg E D) (s : Same F F') (p : A <+: A') : ContsG K W F' A' kg E D :=
  ⟨fun F2 A2 m os σ H W1 W' ps s2 p2 => c.nx F2 A2 m os σ H W1 W' ps (s.trans s2) (pre_trans p p2), fun F2 A2 m os σ H W' v u s2 p2 => c.rt F2 A2 m os σ H W' v u (s.trans s2) (pre_trans p p2)⟩
theorem AfterX.strong {K : PySem.W.Frag} {W0 W1 F : Hp} {A : List Addr} {Ex : EXO} {Wx : WX} (c : AfterX K W0 F A Ex Wx) (s : Same W0 W1) : AfterX K W1 F A Ex Wx :=
  fun F2 A2 m os σ H W' x d v dd s2 p2 G => c F2 A2 m os σ H W' x d v dd s2 p2 (G.weak s)
def liftGO (K : PySem.W.Frag) (Wx : WX) (t : DGO) : TS := fun D σ H => ∃ W0 W1 F A m os W' kg ps E Ex, GoodO K W1 F A m os σ H W' ∧ PP K W0 F A kg ps W1 ∧ t Ex E kg ps m os ∧ ContsG K W0 F A kg E D ∧ AfterX K W0 F A Ex Wx
abbrev JGO (X : Cx) (Wx : WX) (s : Stmt) (t : DGO) : Prop := L2.PS X s (liftGO X.K Wx t)
abbrev JGOs (X : Cx) (Wx : WX) (s : List Stmt) (t : DGO) : Prop := PSs X s (liftGO X.K Wx t)
def gJ (t : DSO) : DGO := fun Ex E _ ps m os => t Ex ⟨fun m1 os1 => E.nx ps m1 os1, E.rt, fun _ _ => False, fun _ _ => False⟩ m os
section
variable {X : Cx} {Wx : WX} {s : Stmt} {rest a b : List Stmt} {pos : Pos} {t u : DGO}
theorem lift_gj {K : PySem.W.Frag} {t : DSO} {D : Ends} {σ : L2.St} {H : Hp} (h : liftGO K Wx (gJ t) D σ H) : liftSO K Wx t D σ H := by
  obtain ⟨W0, W1, F, A, m, os, W', kg, ps, E, Ex, G, P, h, c, cx⟩ := h
  have s := P.same
  exact ⟨W1, F, A, m, os, W', _, Ex, G, h, ⟨fun F1 A1 m1 os1 σ1 H1 W2 s1 p1 G1 q1 => c.nx F1 A1 m1 os1 σ1 H1 W1 W2 ps s1 p1 G1 (P.mono s1 p1) q1,
    fun F1 A1 m1 os1 σ1 H1 W2 v u s1 p1 G1 r1 q1 => c.rt F1 A1 m1 os1 σ1 H1 W2 v u s1 p1 (G1.weak s) r1 q1,
    fun _ _ _ _ _ _ _ _ _ _ q => q.elim, fun _ _ _ _ _ _ _ _ _ _ q => q.elim⟩, cx.strong s⟩
theorem go_js {t : DSO} (h : JSO X Wx s t) : JGO X Wx s (gJ t) := h.imp fun D σ H hh => lift_gj hh
def gSeqO (t u : DGO) : DGO := fun Ex E kg ps m os => t Ex ⟨fun ps1 m1 os1 => u Ex E kg ps1 m1 os1, E.rt⟩ kg ps m os
theorem gos_cons (h1 : JGO X Wx s t) (h2 : JGOs X Wx rest u) : JGOs X Wx (s :: rest) (gSeqO t u) := (pss_cons h1 h2).imp fun D σ H hh => by
  obtain ⟨W0, W1, F, A, m, os, W', kg, ps, E, Ex, G, P, h, c, cx⟩ := hh
  exact ⟨W0, W1, F, A, m, os, W', kg, ps, _, Ex, G, P, h, ⟨fun F1 A1 m1 os1 σ1 H1 W2 W3 ps1 s1 p1 G1 P1 q1 => ⟨W0, W2, F1, A1, m1, os1, W3, kg, ps1, E, Ex, G1, P1, q1, c.mono s1 p1, cx.mono s1 p1⟩, c.rt⟩, cx⟩
theorem gos_one (h1 : JGO X Wx s t) : JGOs X Wx [s] t := pss_one h1

abbrev DTG := Nat → Prs → DTO
def liftTG (K : PySem.W.Frag) (Wx : WX) (t : DTG) : TT := fun σ H Q => ∃ W0 W1 F A m os W' kg ps Qd Ex, PP K W0 F A kg ps W1 ∧ GoodO K W1 F A m os σ H W' ∧ t kg ps Ex m os Qd ∧
  AfterO K W1 F A σ Qd (fun _ _ b H' => Q b H') ∧ AfterX K W1 F A Ex Wx
def gIfO (ct : DTG) (t u : DGO) : DGO := fun Ex E kg ps m os => ct kg ps Ex m os fun b m1 os1 => if b = true then t Ex E kg ps m1 os1 else u Ex E kg ps m1 os1
theorem go_if {c : Expr} {ct : DTG} (hc : PT X c (liftTG X.K Wx ct)) (ha : JGOs X Wx a t) (hb : JGOs X Wx b u) : JGO X Wx (.If c a b pos) (gIfO ct t u) := (ps_if hc ha hb).imp fun D σ H hh => by
  obtain ⟨W0, W1, F, A, m, os, W', kg, ps, E, Ex, G, P, h, c, cx⟩ := hh
  refine ⟨W0, W1, F, A, m, os, W', kg, ps, _, Ex, P, G, h, fun F1 A1 v m1 os1 H1 W2 s1 p1 G1 q1 => ?_, cx.strong P.same⟩
  cases v with
  | true => exact ⟨W0, W1, F1, A1, m1, os1, W2, kg, ps, E, Ex, G1, P.mono s1 p1, q1, c.mono s1 p1, cx.mono s1 p1⟩
  | false => exact ⟨W0, W1, F1, A1, m1, os1, W2, kg, ps, E, Ex, G1, P.mono s1 p1, q1, c.mono s1 p1, cx.mono s1 p1⟩
theorem tg_and {x y : Expr} {t : DTO} {u : DTG} (h : JTO X Wx x t) (h' : PT X y (liftTG X.K Wx u)) : PT X (.BoolOp .And [x, y] pos) (liftTG X.K Wx fun kg ps => xAnd t (u kg ps)) := by
  refine (PW.pt (pw_and h (pw_and1 h'))).imp fun σ H Q hh => ?_
  obtain ⟨W0, W1, F, A, m, os, W', kg, ps, Qd, Ex, P, G, h, c, cx⟩ := hh
  refine ⟨W1, F, A, m, os, W', _, Ex, G, h, fun F1 A1 v m1 os1 H1 W2 s1 p1 G1 q1 => ?_, cx⟩
  cases v with
  | true => exact ⟨W0, W1, F1, A1, m1, os1, W2, kg, ps, _, Ex, P.mono s1 p1, G1, q1, fun F2 A2 w m2 os2 H2 W3 s2 p2 G2 q2 => c F2 A2 w m2 os2 H2 W3 (s1.trans s2) (pre_trans p1 p2) G2 q2, cx.mono s1 p1⟩
  | false => exact c F1 A1 false m1 os1 H1 W2 s1 p1 G1 q1
def gLenLt (ig : Nat) (n : Int) : DTG := fun kg ps _ m os Q => m.sl[ig]? = some (some (.c kg)) ∧ Q (decide ((ps.length : Int) < n)) m os
theorem tg_lenLt {ig : Nat} {x : Str} {px pl p1 pn cp : Pos} {n : Int} {j : Nat} (hN : X.N[ig]? = some x) (hv : Vis X.env.scope x) (hg : Gl X "len") (hm : X.mg "len" = none)
    (hd : (x == ("__debug__" : Str)) = false := by decide) (hcd : (x == ("__classdict__" : Str)) = false := by decide) (hb : behindInMarks .Lt (.Constant (.int n) j pn) = false := by rfl)
    (he : starEach [.Name x px] X.env = (false, eval (.Name x px) X.env) :: starEach [] X.env := by rfl) (hpl : (backTo p1 (starEach [] X.env)).any (·.1) = false := by rfl) :
    PT X (.Compare (.Call (.Name "len" pl) [.Name x px] [] p1) [.Lt] [.Constant (.int n) j pn] cp) (liftTG X.K Wx (gLenLt ig n)) := by
  refine (pt_cmpR op_lt (pe_callB call_len_seq hg hm PySem.boot_len (pa_cons (pv ig hN hv hd hcd) pa_nil he) (by decide) (by decide) he hpl) pe_int hb).imp fun σ H Q hh => ?_
  obtain ⟨W0, W1, F, A, m, os, W', kg, ps, Qd, Ex, P, G, ⟨hs, h⟩, c, cx⟩ := hh
  obtain ⟨g0, rs, h1, h2, h3⟩ := P.rows
  obtain ⟨u, hu, g, hg2, rfl⟩ := G.slot hs
  rw [h1] at hg2
  cases hg2
  refine ⟨_, hu, g0, rs, rfl, .inl (SqL.of (G.sees h2)), (rs.length : Int), n, rfl, rfl, _, rfl, ?_⟩
  rw [h3]
  exact c F A _ m os H W' (Same.refl _) (pre_refl _) G h

def gLoopO (g : Tgt) (b : DGO) (all : List Dt) (lk : Option Nat) (Ex : EXO) (E : DGEnds) (kg : Nat) : List Dt → Prs → M → OS → Prop
  | [], ps, m, os => lockOk lk all m ∧ E.nx ps m os
  | x :: xs, ps, m, os => lockOk lk all m ∧ tgD g (.d x) m fun m1 => b Ex ⟨gLoopO g b all lk Ex E kg xs, E.rt⟩ kg ps m1 os
def gForO (di : DI) (g : Tgt) (b : DGO) : DGO := fun Ex E kg ps m os => di m fun xs lk m1 => gLoopO g b xs lk Ex E kg xs ps m1 os
theorem go_for {iter tg : Expr} {body : List Stmt} {di : DI} {g : Tgt} {tb : DGO} (hp : PassesOwn (model X.prog X.w) X.A X.env X.xe) (hc : X.calm = true) (hi : @JI Ghost.tt X tg iter di) (hg : PG X tg (tgH X.K g)) (hb : JGOs X Wx body tb)
    (hs : ∀ x, foldedSetIterable iter X.env x = pure x := by intro _; rfl) : JGO X Wx (.For tg iter body [] pos) (gForO di g tb) := by
  refine (ps_for hp hc hi hg hb hs).imp fun D σ H hh => ?_
  obtain ⟨W0, W1, F, A, m, os, W', kg, ps, E, Ex, G, P, h, c, cx⟩ := hh
  refine ⟨W', F, A, m, _, G.tt, h, fun F1 A1 xs lk m1 H1 s1 p1 G1 q1 J w => ?_⟩
  have GO1 := G.ot s1 p1 G1
  refine ⟨fun i n σ' H' => ∃ F' A' m' os' V1 W2 ps', Same F1 F' ∧ A1 <+: A' ∧ GoodO X.K V1 F' A' m' os' σ' H' W2 ∧ PP X.K W0 F' A' kg ps' V1 ∧ i + n = xs.length ∧ gLoopO g tb xs lk Ex E kg (xs.drop i) ps' m' os',
    ⟨xs.length, F1, A1, m1, os, W1, W', ps, Same.refl _, pre_refl _, GO1, P.mono s1 p1, Nat.zero_add _, q1⟩, ?_⟩
  rintro i n σ2 H2 ⟨F2, A2, m2, os2, V2, W2, ps2, s2, p2, G2, P2, en, q2⟩
  by_cases hlt : i < xs.length
  · refine .inr ?_
    have ed : xs.drop i = xs[i] :: xs.drop (i + 1) := List.drop_eq_getElem_cons hlt
    rw [ed] at q2
    obtain ⟨hl, q2⟩ : lockOk lk xs m2 ∧ tgD g (.d xs[i]) m2 fun m1 => tb Ex ⟨gLoopO g tb xs lk Ex E kg (xs.drop (i + 1)), E.rt⟩ kg ps2 m1 os2 := q2
    obtain ⟨hgo, hy⟩ := w.go W2 F2 A2 m2 σ2 H2 i xs[i] s2 p2 G2.tt hl (List.getElem?_eq_getElem hlt)
    refine ⟨hgo, fun σ' H' => ∃ F' A' m' os' V3 W3 ps', Same F1 F' ∧ A1 <+: A' ∧ GoodO X.K V3 F' A' m' os' σ' H' W3 ∧ PP X.K W0 F' A' kg ps' V3 ∧ gLoopO g tb xs lk Ex E kg (xs.drop (i + 1)) ps' m' os', fun σ' H' hN => ?_, fun v H3 y => ?_⟩
    · obtain ⟨F', A', m', os', V3, W3, ps', s', p', G', P', q'⟩ := hN
      exact ⟨n - 1, by omega, F', A', m', os', V3, W3, ps', s', p', G', P', by omega, q'⟩
    · obtain ⟨F3, s3, G3, r3⟩ := hy v H3 y
      have GO3 := G2.ot s3 (pre_refl _) G3
      letI : Ghost := gho X.K os2
      refine tg_ok GO3.G (v := .d xs[i]) r3 q2 fun m' σ' G' _ q' => ?_
      have c' := c.mono (s1.trans (s2.trans s3)) (p1.trans p2)
      exact ⟨W0, V2, F3, A2, m', os2, W2, kg, ps2, _, Ex, GO3.next (pre_refl _) G', P2.mono s3 (pre_refl _), q', ⟨fun F4 A4 m4 os4 σ4 H4 V4 W4 ps4 s4 p4 G4 P4 q4 => ⟨F4, A4, m4, os4, V4, W4, ps4, s2.trans (s3.trans s4), p2.trans p4, G4, P4, q4⟩, c'.rt⟩, cx.mono (s1.trans (s2.trans s3)) (p1.trans p2)⟩
  · have e : i = xs.length := by omega
    subst e
    rw [List.drop_length] at q2
    obtain ⟨hl, q2⟩ : lockOk lk xs m2 ∧ E.nx ps2 m2 os2 := q2
    exact .inl ⟨w.stop W2 F2 A2 m2 σ2 H2 s2 p2 G2.tt hl, c.nx F2 A2 m2 os2 _ H2 V2 W2 ps2 (s1.trans s2) (p1.trans p2) G2 P2 q2⟩
def gLoopP (i1 i2 : Nat) (b : DSO) (Ex : EXO) (E : DGEnds) (all : Prs) : Prs → M → OS → Prop
  | [], m, os => E.nx all m os
  | (k, d) :: r, m, os => b Ex ⟨gLoopP i1 i2 b Ex E all r, E.rt, fun _ _ => False, fun _ _ => False⟩ ⟨(m.sl.set i1 (some (.c k))).set i2 (some (.d d)), m.st⟩ os
def gForP (ig i1 i2 : Nat) (b : DSO) : DGO := fun Ex E kg ps m os => m.sl[ig]? = some (some (.c kg)) ∧ gLoopP i1 i2 b Ex E ps ps m os
theorem go_forP {ig i1 i2 : Nat} {x : Str} {tg : Expr} {px : Pos} {body : List Stmt} {b : DSO} (hp : PassesOwn (model X.prog X.w) X.A X.env X.xe) (hc : X.calm = true) (hN : X.N[ig]? = some x) (hv : Vis X.env.scope x)
    (hg : PG X tg (gLst X.K 2 (gNames [i1, i2]))) (hb : JSOs X Wx body b)
    (hd : (x == ("__debug__" : Str)) = false := by decide) (hcd : (x == ("__classdict__" : Str)) = false := by decide)
    (hs : ∀ z, foldedSetIterable (.Name x px) X.env z = pure z := by intro _; rfl) : JGO X Wx (.For tg (.Name x px) body [] pos) (gForP ig i1 i2 b) := by
  refine (ps_for hp hc (pi_list (pv ig hN hv hd hcd)) hg hb hs).imp fun D σ H hh => ?_
  obtain ⟨W0, W1, F, A, m, os, W', kg, ps, E, Ex, G, P, ⟨hsl, h⟩, c, cx⟩ := hh
  obtain ⟨g0, rs, hg0, hw, hl⟩ := P.rows
  obtain ⟨u, hu, g, hg2, rfl⟩ := G.slot hsl
  rw [hg0] at hg2
  cases hg2
  refine ⟨_, hu, g0, rfl, ⟨rs, SqL.of (G.sees hw)⟩, ?_⟩
  refine ⟨fun i n σ' H' => ∃ F' A' m' os' W2, Same F F' ∧ A <+: A' ∧ GoodO X.K W1 F' A' m' os' σ' H' W2 ∧ i + n = ps.length ∧ gLoopP i1 i2 b Ex E ps (ps.drop i) m' os',
    ⟨ps.length, F, A, m, os, W', Same.refl _, pre_refl _, G, Nat.zero_add _, h⟩, ?_⟩
  rintro i n σ2 H2 ⟨F2, A2, m2, os2, W2, s2, p2, G2, en, q2⟩
  by_cases hlt : i < ps.length
  · refine .inr ?_
    have ed : ps.drop i = ps[i] :: ps.drop (i + 1) := List.drop_eq_getElem_cons hlt
    obtain ⟨k, d, ei⟩ : ∃ k d, ps[i] = (k, d) := ⟨ps[i].1, ps[i].2, rfl⟩
    rw [ed, ei] at q2
    have q2 : b Ex ⟨gLoopP i1 i2 b Ex E ps (ps.drop (i + 1)), E.rt, fun _ _ => False, fun _ _ => False⟩ ⟨(m2.sl.set i1 (some (.c k))).set i2 (some (.d d)), m2.st⟩ os2 := q2
    obtain ⟨g1, rs1, q, bb, v, k1, k2, k3, k4, k5, k6, k7⟩ := (P.mono s2 p2).get (i := i) (k := k) (d := d) (by rw [List.getElem?_eq_getElem hlt, ei])
    rw [pre_get p2 hg0] at k1
    cases k1
    rw [hw] at k2
    cases k2
    refine ⟨⟨rs, .ref q, SqL.of (G2.sees hw), k4⟩, fun σ' H' => ∃ F' A' m' os' W3, Same F F' ∧ A <+: A' ∧ GoodO X.K W1 F' A' m' os' σ' H' W3 ∧ gLoopP i1 i2 b Ex E ps (ps.drop (i + 1)) m' os', fun σ' H' hN => ?_, fun z H3 y => ?_⟩
    · obtain ⟨F', A', m', os', W3, s', p', G', q'⟩ := hN
      exact ⟨n - 1, by omega, F', A', m', os', W3, s', p', G', by omega, q'⟩
    · obtain ⟨rfl, y⟩ := y
      have e := (y rs (SqL.of (G2.sees hw))).symm.trans k4
      cases e
      refine ⟨q, [.ref bb, v], rfl, SqL.of (G2.sees k7), rfl, gNames_ok rfl ?_⟩
      have G3 := (G2.put1 (i := i1) (v := .c k) (u := .ref bb) ⟨bb, k5, rfl⟩).put1 (i := i2) (v := .d d) (u := v) k6
      have c' := c.mono s2 p2
      exact ⟨W1, F2, A2, _, os2, W2, _, Ex, G3, q2, ⟨fun F4 A4 m4 os4 σ4 H4 W4 s4 p4 G4 q4 => ⟨F4, A4, m4, os4, W4, s2.trans s4, p2.trans p4, G4, q4⟩,
        fun F4 A4 m4 os4 σ4 H4 W4 v u s4 p4 G4 r4 q4 => c'.rt F4 A4 m4 os4 σ4 H4 W4 v u s4 p4 (G4.weak P.same) r4 q4, fun _ _ _ _ _ _ _ _ _ _ q => q.elim, fun _ _ _ _ _ _ _ _ _ _ q => q.elim⟩, (cx.strong P.same).mono s2 p2⟩
  · have e : i = ps.length := by omega
    subst e
    rw [List.drop_length] at q2
    exact .inl ⟨⟨rs, SqL.of (G2.sees hw), by rw [hl]; exact Nat.le_refl _⟩, c.nx F2 A2 m2 os2 _ H2 W1 W2 ps s2 p2 G2 (P.mono s2 p2) q2⟩
end
end RT

set_option maxRecDepth 100000
set_option maxHeartbeats 4000000

namespace RT
open PySem PySem.Spec PyProof.Rows L2
section
variable {X : Cx} {Wx : WX} {pos pos' : Pos} {rest : List Stmt}
def xGrpP (ig : Nat) (tb td : DEO) (u : DGO) : DSO := fun Ex E m os => tb Ex m os fun v m1 os1 => td Ex m1 os1 fun w m2 os2 => match v, w with
  | .c k, .d d => u Ex ⟨fun _ m os => E.nx m os, E.rt⟩ m2.st.length [(k, d)] ⟨m2.sl.set ig (some (.c m2.st.length)), m2.st ++ [.dead]⟩ os2
  | _, _ => False
theorem cd_elim {v w : Vl} {P : Nat → Dt → Prop} (h : match v, w with
  | .c k, .d d => P k d
  | _, _ => False) : ∃ k d, v = .c k ∧ w = .d d ∧ P k d := by
  split at h
  · exact ⟨_, _, rfl, rfl, h⟩
  · exact h.elim
theorem sos_grp {ig : Nat} {x : Str} {px p1 p2 : Pos} {e1 e2 : Expr} {tb td : DEO} {u : DGO} (hN : X.N.Nodup) (s : SlotOk X ig x) (h1 : JEO X Wx e1 tb) (h2 : JEO X Wx e2 td) (hu : JGOs X Wx rest u)
    (he : starEach [e1, e2] X.env = (false, eval e1 X.env) :: starEach [e2] X.env := by rfl) (he2 : starEach [e2] X.env = (false, eval e2 X.env) :: starEach [] X.env := by rfl)
    (he3 : starEach [.List [e1, e2] p1] X.env = (false, eval (.List [e1, e2] p1) X.env) :: starEach [] X.env := by rfl)
    (hs : swapsWith (.List [.List [e1, e2] p1] p2) (some (.Name x px)) pos.line X.env = pure false := by rfl) :
    JSOs X Wx (.Assign [.Name x px] (.List [.List [e1, e2] p1] p2) pos :: rest) (xGrpP ig tb td u) := by
  refine (pss_cons (ps_set hN s.hN s.hl (pe_lst (pa_cons (pe_lst (pa_cons h1 (pa_cons h2 pa_nil he2) he)) pa_nil he3)) hs s.hf) hu).imp fun D σ H hh => ?_
  obtain ⟨W, F, A, m, os, W', E, Ex, G, h, c, cx⟩ := hh
  show liftEO X.K Wx tb σ H _
  refine ⟨W, F, A, m, os, W', _, Ex, G, h, fun F1 A1 v m1 os1 H1 W1 s1 p1 G1 q1 u1 r1 => ⟨W, F1, A1, m1, os1, W1, _, Ex, G1, q1, fun F2 A2 w m2 os2 H2 W2 s2 p2 G2 q2 u2 r2 => ⟨by rw [sizeLine_eq]; show 2 ≤ _; omega, fun q nq => ⟨by rw [sizeLine_eq]; show 1 ≤ _; omega, fun g0 ng => ?_⟩⟩, cx.mono s1 p1⟩, cx⟩
  obtain ⟨k, d, rfl, rfl, q2⟩ := cd_elim q2
  obtain ⟨b, hb, rfl⟩ := RepV.mono s2 p2 r1
  have nWq : W q = none := by
    cases z : W q with
    | none => rfl
    | some o => rw [G2.sees z] at nq; cases nq
  have ne : g0 ≠ q := fun z => by rw [z, upd_same] at ng; cases ng
  have ng2 : H2 g0 = none := by
    rw [upd_ne ne] at ng
    exact ng
  have nWg : W g0 = none := by
    cases z : W g0 with
    | none => rfl
    | some o => rw [G2.sees z] at ng2; cases ng2
  have G3 := (G2.hid1 (o := .lst [.ref b, u2]) nq).hid1 (o := .lst [.ref q]) ng
  have G4 := G3.ptr g0
  have atg : (A2 ++ [g0])[m2.st.length]? = some g0 := by
    rw [← G2.lenA]
    simp
  have P := PP.one G2 (A := A2) (kg := m2.st.length) (k := k) (d := d) (g0 := g0) (q := q) (b := b) (v := u2)
  have pr : A2 <+: A2 ++ [g0] := ⟨[g0], rfl⟩
  have P2 : PP X.K W F2 (A2 ++ [g0]) m2.st.length [(k, d)] (upd (upd W q (.lst [.ref b, u2])) g0 (.lst [.ref q])) := PP.one (G2.ptr g0) atg nWg nWq ne (pre_get pr hb) r2
  have G5 := G4.put1 (i := ig) (v := .c m2.st.length) (u := .ref g0) ⟨g0, atg, rfl⟩
  have c' := c.mono (s1.trans s2) (pre_trans p1 p2)
  exact ⟨W, _, F2, A2 ++ [g0], _, os2, _, m2.st.length, [(k, d)], _, Ex, G5, P2, q2, ⟨fun F4 A4 m4 os4 σ4 H4 W4 W5 ps4 s4 p4 G6 P6 q6 => c'.nx F4 A4 m4 os4 σ4 H4 W5 s4 (pre_trans pr p4) (G6.weak P6.same) q6,
    fun F4 A4 m4 os4 σ4 H4 W4 v4 u4 s4 p4 G6 r6 q6 => c'.rt F4 A4 m4 os4 σ4 H4 W4 v4 u4 s4 (pre_trans pr p4) G6 r6 q6⟩, (cx.mono (s1.trans s2) (pre_trans p1 p2)).mono (Same.refl _) pr⟩

theorem pe_callO {j k : Nat} {x : Str} {p : Pos} {e : Expr} {es : List Expr} {ta : TA} {sp : FSpecO} (F : FnO X.prog X.w X.K X.mg X.base x j sp) (hr : GRoom k X.A) (hg : Gl X x) (tk : Takes X Wx) (ha : PA X (e :: es) ta) (hj : j ≤ k := by decide) (hdb : (x == ("__debug__" : Str)) = false := by decide)
    (he : starEach (e :: es) X.env = (false, eval e X.env) :: starEach es X.env := by rfl) (hpl : (backTo pos (starEach es X.env)).any (·.1) = false := by rfl) : PE X (.Call (.Name x p) (e :: es) [] pos) (fun σ H Q => ta σ H fun us H1 => liftSpO X.K sp us H1 Q (WE Wx σ)) := by
  obtain ⟨f, fd, ps, F, hm, hk, hb⟩ := F
  refine ⟨fun pins s σ H Q I h => ?_⟩
  refine wpAny_Call_Name_kw (ld_glob I hg hm ?_ hdb)
  exact PySem.W.callWith_K (h₀ := X.base) I.ok.mod.kin hk (thn (ha.run pos pins s σ H (fun us H1 => liftSpO X.K sp us H1 Q (WE Wx σ)) I h) fun us s1 ⟨vs, H1, I1, r, q⟩ => ⟨I1.kIn, run_fnX F (hr.mono hj) hb (passAt tk σ) I1 r q⟩) he hpl
def gSetL (i : Nat) (sp : FSpecO) (tb : DEO) (ig : Nat) : DGO := fun Ex E kg ps m os => tb Ex m os fun v m1 os1 => m1.sl[ig]? = some (some (.c kg)) ∧
  sp [v, .d (.int ps.length)] m1.st os1 (fun r st' os' => E.nx ps ⟨m1.sl.set i (some r), st'⟩ os') (fun x d st' os' => Ex x d ⟨m1.sl, st'⟩ os')
theorem go_setL {i ig j k : Nat} {x y f : Str} {py pf px pl p1 cp : Pos} {e : Expr} {tb : DEO} {sp : FSpecO} (F : FnO X.prog X.w X.K X.mg X.base f j sp) (hr : GRoom k X.A) (hgf : Gl X f) (tk : Takes X Wx) (hN : X.N.Nodup) (s : SlotOk X i y) (hb : JEO X Wx e tb)
    (hx : X.N[ig]? = some x) (hv : Vis X.env.scope x) (hg : Gl X "len") (hm : X.mg "len" = none) (hj : j ≤ k := by decide) (hdb : (f == ("__debug__" : Str)) = false := by decide)
    (hd : (x == ("__debug__" : Str)) = false := by decide) (hcd : (x == ("__classdict__" : Str)) = false := by decide)
    (he0 : starEach [.Name x px] X.env = (false, eval (.Name x px) X.env) :: starEach [] X.env := by rfl) (hpl0 : (backTo p1 (starEach [] X.env)).any (·.1) = false := by rfl)
    (he : starEach [e, .Call (.Name "len" pl) [.Name x px] [] p1] X.env = (false, eval e X.env) :: starEach [.Call (.Name "len" pl) [.Name x px] [] p1] X.env := by rfl)
    (he2 : starEach [.Call (.Name "len" pl) [.Name x px] [] p1] X.env = (false, eval (.Call (.Name "len" pl) [.Name x px] [] p1) X.env) :: starEach [] X.env := by rfl)
    (hpl : (backTo cp (starEach [.Call (.Name "len" pl) [.Name x px] [] p1] X.env)).any (·.1) = false := by rfl)
    (hs : swapsWith (.Call (.Name f pf) [e, .Call (.Name "len" pl) [.Name x px] [] p1] [] cp) (some (.Name y py)) pos.line X.env = pure false := by rfl) :
    JGO X Wx (.Assign [.Name y py] (.Call (.Name f pf) [e, .Call (.Name "len" pl) [.Name x px] [] p1] [] cp) pos) (gSetL i sp tb ig) := by
  refine (ps_set hN s.hN s.hl (pe_callO F hr hgf tk (pa_cons hb (pa_cons (pe_callB call_len_seq hg hm PySem.boot_len (pa_cons (pv ig hx hv hd hcd) pa_nil he0) (by decide) (by decide) he0 hpl0) pa_nil he2) he) hj hdb he hpl) hs s.hf).imp fun D σ H hh => ?_
  obtain ⟨W0, W1, F, A, m, os, W', kg, ps, E, Ex, G, P, h, c, cx⟩ := hh
  have cx1 := cx.strong P.same
  refine ⟨W1, F, A, m, os, W', _, Ex, G, h, fun F1 A1 v m1 os1 H1 W2 s1 p1 G1 q1 u1 r1 => ?_, cx1⟩
  obtain ⟨hsl, q1⟩ := q1
  obtain ⟨g0, rs, h1, h2, h3⟩ := (P.mono s1 p1).rows
  obtain ⟨u, hu, g, hg2, rfl⟩ := G1.slot hsl
  rw [h1] at hg2
  cases hg2
  refine ⟨_, hu, g0, rs, rfl, .inl (SqL.of (G1.sees h2)), ?_⟩
  show liftSpO X.K sp [u1, .int rs.length] H1 _ _
  rw [h3]
  have rr : RepVs X.K F1 A1 [v, .d (.int ps.length)] [u1, .int ps.length] := ⟨u1, _, rfl, r1, .int ps.length, [], rfl, (rep_int : Rep X.K F1 (.int ps.length) (.int ps.length)), rfl⟩
  refine lift_spO (Wx := Wx) (Qd := fun r m' os' => E.nx ps ⟨m'.sl.set i (some r), m'.st⟩ os') (Ex := Ex) G1 rr q1 (fun F2 A2 r m2 os2 H2 W3 s2 p2 G2 q2 u2 r2 => ?_) (cx1.mono s1 p1)
  exact c.nx F2 A2 _ os2 _ H2 W1 W3 ps (s1.trans s2) (pre_trans p1 p2) (G2.put1 r2) (P.mono (s1.trans s2) (pre_trans p1 p2)) q2
def gUnp (ig ia i1 i2 : Nat) : DGO := fun _ E kg ps m os => m.sl[ig]? = some (some (.c kg)) ∧ ∃ (n k : Nat) (d : Dt), m.sl[ia]? = some (some (.d (.int n))) ∧ ps[n]? = some (k, d) ∧ E.nx ps ⟨(m.sl.set i1 (some (.c k))).set i2 (some (.d d)), m.st⟩ os
theorem ixN_nat {n i : Nat} (h : i < n) : ixN n (i : Int) = some i := by
  unfold ixN
  rw [if_pos (by omega), if_pos (by omega), Int.toNat_natCast]
theorem atI_nat {xs : List V} {n : Nat} {v : V} (h : xs[n]? = some v) : atI xs (n : Int) = some v := by
  unfold atI
  rw [ixN_nat (List.getElem?_eq_some_iff.mp h).1]
  exact h
theorem go_unp {ig ia i1 i2 : Nat} {x y : Str} {tg : Expr} {px py ip : Pos} (hx : X.N[ig]? = some x) (hv : Vis X.env.scope x) (hy : X.N[ia]? = some y) (hvy : Vis X.env.scope y) (hg : PG X tg (gLst X.K 2 (gNames [i1, i2])))
    (hd : (x == ("__debug__" : Str)) = false := by decide) (hcd : (x == ("__classdict__" : Str)) = false := by decide) (hd2 : (y == ("__debug__" : Str)) = false := by decide) (hcd2 : (y == ("__classdict__" : Str)) = false := by decide)
    (hpi : PlainIx (.Name y py) := by intro _ _; rfl) (hs : swapsWithSole [tg] (.Subscript (.Name x px) (.Name y py) ip) pos.line X.env = pure false := by rfl) (hw : swappedStores [tg] (.Subscript (.Name x px) (.Name y py) ip) X.env = pure none := by rfl)
    (h1 : (assignEach [tg] X.env).map (·.2) = [assign tg X.env] := by rfl) : JGO X Wx (.Assign [tg] (.Subscript (.Name x px) (.Name y py) ip) pos) (gUnp ig ia i1 i2) := by
  refine (ps_asg (pe_ix ix_list (pv ig hx hv hd hcd) (pv ia hy hvy hd2 hcd2) hpi) hg hs hw h1).imp fun D σ H hh => ?_
  obtain ⟨W0, W1, F, A, m, os, W', kg, ps, E, Ex, G, P, ⟨hsl, n, k, d, hn, hp, h⟩, c, cx⟩ := hh
  obtain ⟨g0, rs, q, b, v, k1, k2, k3, k4, k5, k6, k7⟩ := P.get hp
  obtain ⟨u, hu, g, hg2, rfl⟩ := G.slot hsl
  rw [k1] at hg2
  cases hg2
  obtain ⟨z, hz, rz⟩ := G.slot hn
  have ez : z = .int n := by
    have rz' : Rep X.K F (.int n) z := rz
    simpa only [Rep] using rz'
  subst ez
  refine ⟨_, hu, _, hz, g0, rs, n, _, rfl, rfl, SqL.of (G.sees k2), atI_nat k4, q, [.ref b, v], rfl, SqL.of (G.sees k7), rfl, gNames_ok rfl ?_⟩
  exact c.nx F A _ os _ H W1 W' ps (Same.refl _) (pre_refl _) ((G.put1 (i := i1) (v := .c k) (u := .ref b) ⟨b, k5, rfl⟩).put1 (i := i2) (v := .d d) (u := v) k6) P h
def gPut (ig ia : Nat) (te : DEO) : DGO := fun Ex E kg ps m os => te Ex m os fun v m1 os1 => match v with
  | .d d => m1.sl[ig]? = some (some (.c kg)) ∧ ∃ (n k : Nat) (d0 : Dt), m1.sl[ia]? = some (some (.d (.int n))) ∧ ps[n]? = some (k, d0) ∧ E.nx (ps.set n (k, d)) m1 os1
  | _ => False
theorem d_elim {v : Vl} {P : Dt → Prop} (h : match v with
  | .d d => P d
  | _ => False) : ∃ d, v = .d d ∧ P d := by
  split at h
  · exact ⟨_, rfl, h⟩
  · exact h.elim
theorem go_put {ig ia : Nat} {x y : Str} {px py ip sp cp : Pos} {j : Nat} {e tg : Expr} {te : DEO} (et : tg = .Subscript (.Subscript (.Name x px) (.Name y py) ip) (.Constant (.int 1) j cp) sp) (he : JEO X Wx e te) (hx : X.N[ig]? = some x) (hv : Vis X.env.scope x) (hy : X.N[ia]? = some y) (hvy : Vis X.env.scope y)
    (hd : (x == ("__debug__" : Str)) = false := by decide) (hcd : (x == ("__classdict__" : Str)) = false := by decide) (hd2 : (y == ("__debug__" : Str)) = false := by decide) (hcd2 : (y == ("__classdict__" : Str)) = false := by decide)
    (hpi : PlainIx (.Name y py) := by intro _ _; rfl) (hs : swapsWithSole [tg] e pos.line X.env = pure false := by rfl) (hw : swappedStores [tg] e X.env = pure none := by rfl)
    (h1 : (assignEach [tg] X.env).map (·.2) = [assign tg X.env] := by rfl) : JGO X Wx (.Assign [tg] e pos) (gPut ig ia te) := by
  subst et
  refine (ps_asg he (pg_sub (pe_ix ix_list (pv ig hx hv hd hcd) (pv ia hy hvy hd2 hcd2) hpi) pe_int set_list) hs hw h1).imp fun D σ H hh => ?_
  obtain ⟨W0, W1, F, A, m, os, W', kg, ps, E, Ex, G, P, h, c, cx⟩ := hh
  refine ⟨W1, F, A, m, os, W', _, Ex, G, h, fun F1 A1 v m1 os1 H1 W2 s1 p1 G1 q1 u1 r1 => ?_, cx.strong P.same⟩
  obtain ⟨d, rfl, hsl, n, k, d0, hn, hp, q1⟩ := d_elim q1
  obtain ⟨g0, rs, q, b, v, k1, k2, k3, k4, k5, k6, k7⟩ := (P.mono s1 p1).get hp
  obtain ⟨u, hu, g, hg2, rfl⟩ := G1.slot hsl
  rw [k1] at hg2
  cases hg2
  obtain ⟨z, hz, rz⟩ := G1.slot hn
  have ez : z = .int n := by
    have rz' : Rep X.K F1 (.int n) z := rz
    simpa only [Rep] using rz'
  subst ez
  refine ⟨_, hu, _, hz, g0, rs, n, _, rfl, rfl, SqL.of (G1.sees k2), atI_nat k4, q, [.ref b, v], 1, 1, rfl, rfl, G1.sees k7, ixN_nat (n := 2) (i := 1) (by decide), ?_⟩
  exact c.nx F1 A1 _ os1 σ _ _ _ _ s1 p1 (G1.hset k7) ((P.mono s1 p1).set hp k1 k2 k4 k5 r1) q1
def gAppP (ig : Nat) (tb td : DEO) : DGO := fun Ex E kg ps m os => m.sl[ig]? = some (some (.c kg)) ∧ tb Ex m os fun v m1 os1 => td Ex m1 os1 fun w m2 os2 => match v, w with
  | .c k, .d d => ps.length < sizeLine ∧ E.nx (ps ++ [(k, d)]) m2 os2
  | _, _ => False
theorem go_app {ig : Nat} {x : Str} {px apos cpos lp : Pos} {e1 e2 : Expr} {tb td : DEO} (hN : X.N[ig]? = some x) (hv : Vis X.env.scope x) (h1 : JEO X Wx e1 tb) (h2 : JEO X Wx e2 td)
    (hd : (x == ("__debug__" : Str)) = false := by decide) (hcd : (x == ("__classdict__" : Str)) = false := by decide)
    (hbase : attributeBase (.Name x px) "append" X.env (eval (.Name x px) X.env) = eval (.Name x px) X.env := by rfl)
    (hfew : ((backTo cpos (starEach [.List [e1, e2] lp] X.env)).all (fun x => !x.1) && (backToKw cpos (keywordEach [] X.env)).all (fun x => x.1.isSome)
      && decide (([.List [e1, e2] lp] : List Expr).length + ([] : List Keyword).length + (if ([] : List Keyword).isEmpty then 0 else 1) < 30)) = true := by rfl)
    (hline : (apos.endLine == cpos.line) = true := by rfl) (hs : starEach [.List [e1, e2] lp] X.env = (false, eval (.List [e1, e2] lp) X.env) :: starEach [] X.env := by rfl) (hplain : (backTo cpos (starEach [] X.env)).any (·.1) = false := by rfl)
    (he : starEach [e1, e2] X.env = (false, eval e1 X.env) :: starEach [e2] X.env := by rfl) (he2 : starEach [e2] X.env = (false, eval e2 X.env) :: starEach [] X.env := by rfl)
    (hsw : swapsWith (.Call (.Attribute (.Name x px) "append" apos) [.List [e1, e2] lp] [] cpos) none pos.line X.env = pure false := by rfl) :
    JGO X Wx (.Expr (.Call (.Attribute (.Name x px) "append" apos) [.List [e1, e2] lp] [] cpos) pos) (gAppP ig tb td) := by
  refine (ps_expr (pe_bm PySem.F.plainAttrs_list PySem.F.slot_list_append PySem.F.type_list_append mt_append (pv ig hN hv hd hcd) (pa_cons (pe_lst (pa_cons h1 (pa_cons h2 pa_nil he2) he)) pa_nil hs) hbase hfew hline hs hplain) hsw).imp fun D σ H hh => ?_
  obtain ⟨W0, W1, F, A, m, os, W', kg, ps, E, Ex, G, P, ⟨hsl, h⟩, c, cx⟩ := hh
  obtain ⟨g0, rs, hg0, hw, hl⟩ := P.rows
  obtain ⟨u, hu, g, hg2, rfl⟩ := G.slot hsl
  rw [hg0] at hg2
  cases hg2
  have cx1 := cx.strong P.same
  refine ⟨_, hu, .inl ⟨rfl, _, SqL.of (G.sees hw)⟩, ?_⟩
  show liftEO X.K Wx tb σ H _
  refine ⟨W1, F, A, m, os, W', _, Ex, G, h, fun F1 A1 v m1 os1 H1 W2 s1 p1 G1 q1 u1 r1 => ⟨W1, F1, A1, m1, os1, W2, _, Ex, G1, q1, fun F2 A2 w m2 os2 H2 W3 s2 p2 G2 q2 u2 r2 => ⟨by rw [sizeLine_eq]; show 2 ≤ _; omega, fun q nq => ?_⟩, cx1.mono s1 p1⟩, cx1⟩
  obtain ⟨k, d, rfl, rfl, hlen, q2⟩ := cd_elim q2
  obtain ⟨b, hb, rfl⟩ := RepV.mono s2 p2 r1
  have nWq : W1 q = none := by
    cases z : W1 q with
    | none => rfl
    | some o => rw [G2.sees z] at nq; cases nq
  obtain ⟨g1, rs1, e1, e2, e3, P3⟩ := (P.mono (s1.trans s2) (pre_trans p1 p2)).push nWq hb r2
  rw [pre_get (pre_trans p1 p2) hg0] at e1
  cases e1
  rw [hw] at e2
  cases e2
  have ne : g0 ≠ q := fun z => by rw [z, nWq] at hw; cases hw
  have G3 := G2.hid1 (o := .lst [.ref b, u2]) nq
  have hw3 : upd W1 q (.lst [.ref b, u2]) g0 = some (.lst rs) := by
    rw [upd_ne ne]
    exact hw
  have G4 := G3.hset (ts := rs ++ [.ref q]) hw3
  refine ⟨g0, rs, .ref q, rfl, rfl, G3.sees hw3, by rw [hl]; exact hlen, ?_⟩
  exact c.nx F2 A2 m2 os2 σ _ _ _ _ (s1.trans s2) (pre_trans p1 p2) G4 P3 q2
def xAppO (to : DEO) (ts : DAO) : DEO := fun Ex m os Q => to Ex m os fun v m0 os0 => match v with
  | .c k => (∃ zs, m0.st[k]? = some (.lst zs)) ∧ ts Ex m0 os0 fun vs m1 os1 => onDs vs fun ys => ∃ y, ys = [y] ∧ onC m1.st k fun xs => xs.length < sizeLine ∧ Q (.d .non) ⟨m1.sl, m1.st.set k (.lst (xs ++ [y]))⟩ os1
  | _ => False
theorem c_elim {v : Vl} {P : Nat → Prop} (h : match v with
  | .c k => P k
  | _ => False) : ∃ k, v = .c k ∧ P k := by
  split at h
  · exact ⟨_, rfl, h⟩
  · exact h.elim
theorem eo_appO {o e : Expr} {es : List Expr} {apos cpos : Pos} {to : DEO} {ts : DAO} (ho : JEO X Wx o to) (ha : JAO X Wx (e :: es) ts)
    (hbase : attributeBase o "append" X.env (eval o X.env) = eval o X.env := by rfl)
    (hfew : ((backTo cpos (starEach (e :: es) X.env)).all (fun x => !x.1) && (backToKw cpos (keywordEach [] X.env)).all (fun x => x.1.isSome)
      && decide ((e :: es).length + ([] : List Keyword).length + (if ([] : List Keyword).isEmpty then 0 else 1) < 30)) = true := by rfl)
    (hline : (apos.endLine == cpos.line) = true := by rfl) (hs : starEach (e :: es) X.env = (false, eval e X.env) :: starEach es X.env := by rfl) (hplain : (backTo cpos (starEach es X.env)).any (·.1) = false := by rfl) :
    JEO X Wx (.Call (.Attribute o "append" apos) (e :: es) [] cpos) (xAppO to ts) := by
  refine (pe_bm PySem.F.plainAttrs_list PySem.F.slot_list_append PySem.F.type_list_append mt_append ho ha hbase hfew hline hs hplain).imp fun σ H Q hh => ?_
  obtain ⟨W, F, A, m, os, W', Qd, Ex, G, h, c, cx⟩ := hh
  refine ⟨W, F, A, m, os, W', _, Ex, G, h, fun F1 A1 v m1 os1 H1 W1 s1 p1 G1 q1 u1 r1 => ?_, cx⟩
  obtain ⟨k, rfl, ⟨zs, ez⟩, q1⟩ := c_elim q1
  obtain ⟨a, ha', rfl⟩ := r1
  obtain ⟨a', ws, h1, h2, _, _⟩ := (show ∃ a vs, A1[k]? = some a ∧ H1 a = some (.lst vs) ∧ Reps X.K F1 zs vs ∧ F1 a = none ∧ W1 a = none from by
    obtain ⟨_, _, g⟩ := G1
    obtain ⟨_, _, _, _, _, _, st, _⟩ := g
    exact st k zs ez)
  rw [ha'] at h1
  cases h1
  refine ⟨.inl ⟨rfl, _, SqL.of h2⟩, W, F1, A1, m1, os1, W1, _, Ex, G1, q1, fun F2 A2 vs m2 os2 H2 W2 s2 p2 G2 q2 us r2 => ?_, cx.mono s1 p1⟩
  obtain ⟨ys, rfl, y, rfl, q3⟩ := onDs_elim q2
  obtain ⟨xs, ex, q2⟩ := onC_elim q3
  obtain ⟨a', vs', g1, g2, g3, _⟩ := (show ∃ a vs, A2[k]? = some a ∧ H2 a = some (.lst vs) ∧ Reps X.K F2 xs vs ∧ F2 a = none ∧ W2 a = none from by
    obtain ⟨_, _, g⟩ := G2
    obtain ⟨_, _, _, _, _, _, st, _⟩ := g
    exact st k xs ex)
  have hka := pre_get p2 ha'
  rw [hka] at g1
  cases g1
  obtain ⟨u, rfl, ru⟩ := reps1 (reps_of r2)
  refine ⟨a, vs', u, rfl, rfl, g2, by rw [← g3.length]; exact q2.1, ?_⟩
  exact c F2 A2 (.d .non) _ os2 _ W2 (s1.trans s2) (pre_trans p1 p2) (G2.next (pre_refl _) (@Good.write (gho X.K os2) _ _ _ _ _ _ _ _ _ _ _ _ G2.G ex hka (g3.append (.cons ru .nil)))) q2.2 .non rv_non
end
end RT

set_option maxRecDepth 100000
set_option maxHeartbeats 4000000
namespace PG
open PySem PySem.Spec PyProof.Rows L2 RT

def w_common_divisor : DS := (dSeq (dSet 2 (dBi bAbs (dCons (dVar 0) dNil)))
  (dSeq (dSet 3 (dBi bAbs (dCons (dVar 1) dNil)))
  (dSeq (dWhile (dTest (dOp rGt (dVar 3) (dC (.int 0))))
  (dPar 2 3 (dCons (dVar 3) (dCons (dOp rMod (dVar 2) (dVar 3)) dNil))))
  (dRet (dVar 2)))))
@[irreducible] def sp_common_divisor : FSpec := spOf false 2 4 w_common_divisor

def w_fraction : DS := (dSeq (dSet 2 (dCall PG.sp_common_divisor [] (dCons (dVar 0) (dCons (dVar 1) dNil))))
  (dSeq (dIfS (dTest (dOp rLt (dVar 1) (dC (.int 0))))
  (dSet 2 (rU rNeg (dVar 2)))
  dNext)
  (dRet (dTup (dCons (dOp rDiv (dVar 0) (dVar 2)) (dCons (dOp rDiv (dVar 1) (dVar 2)) dNil))))))
@[irreducible] def sp_fraction : FSpec := spOf false 2 3 w_fraction

def w_add : DS := (dRet (dCall PG.sp_fraction [] (dCons (dOp rAddA (dOp rMul (dOp rIx (dVar 0) (dC (.int 0))) (dOp rIx (dVar 1) (dC (.int 1)))) (dOp rMul (dOp rIx (dVar 1) (dC (.int 0))) (dOp rIx (dVar 0) (dC (.int 1))))) (dCons (dOp rMul (dOp rIx (dVar 0) (dC (.int 1))) (dOp rIx (dVar 1) (dC (.int 1)))) dNil))))
@[irreducible] def sp_add : FSpec := spOf false 2 2 w_add

def w_negative : DS := (dRet (dTup (dCons (rU rNeg (dOp rIx (dVar 0) (dC (.int 0)))) (dCons (dOp rIx (dVar 0) (dC (.int 1))) dNil))))
@[irreducible] def sp_negative : FSpec := spOf false 1 1 w_negative

def w_subtract : DS := (dRet (dCall PG.sp_add [] (dCons (dVar 0) (dCons (dCall PG.sp_negative [] (dCons (dVar 1) dNil)) dNil))))
@[irreducible] def sp_subtract : FSpec := spOf false 2 2 w_subtract

def w_multiply : DS := (dRet (dCall PG.sp_fraction [] (dCons (dOp rMul (dOp rIx (dVar 0) (dC (.int 0))) (dOp rIx (dVar 1) (dC (.int 0)))) (dCons (dOp rMul (dOp rIx (dVar 0) (dC (.int 1))) (dOp rIx (dVar 1) (dC (.int 1)))) dNil))))
@[irreducible] def sp_multiply : FSpec := spOf false 2 2 w_multiply

def w_divide : DS := (dRet (dCall PG.sp_fraction [] (dCons (dOp rMul (dOp rIx (dVar 0) (dC (.int 0))) (dOp rIx (dVar 1) (dC (.int 1)))) (dCons (dOp rMul (dOp rIx (dVar 0) (dC (.int 1))) (dOp rIx (dVar 1) (dC (.int 0)))) dNil))))
@[irreducible] def sp_divide : FSpec := spOf false 2 2 w_divide

def w_sign : DS := (dSeq (dIfS (dTest (dOp rGt (dOp rIx (dVar 0) (dC (.int 0))) (dC (.int 0))))
  (dRet (dC (.int 1)))
  dNext)
  (dSeq (dIfS (dTest (dOp rLt (dOp rIx (dVar 0) (dC (.int 0))) (dC (.int 0))))
  (dRet (rU rNeg (dC (.int 1))))
  dNext)
  (dRet (dC (.int 0)))))
@[irreducible] def sp_sign : FSpec := spOf false 1 1 w_sign

def w_compare : DS := (dRet (dCall PG.sp_sign [] (dCons (dCall PG.sp_subtract [] (dCons (dVar 0) (dCons (dVar 1) dNil))) dNil)))
@[irreducible] def sp_compare : FSpec := spOf false 2 2 w_compare

def w_is_at_most : DS := (dRet (dOp rLe (dCall PG.sp_compare [] (dCons (dVar 0) (dCons (dVar 1) dNil))) (dC (.int 0))))
@[irreducible] def sp_is_at_most : FSpec := spOf false 2 2 w_is_at_most

def w__law_cell : DS := (dSeq (dIfS (dTest (dOp rLt (dVar 1) (dBi bLen (dCons (dVar 0) dNil))))
  (dRet (dOp rIx (dVar 0) (dVar 1)))
  dNext)
  (dRet (dC (.int 0))))
@[irreducible] def sp__law_cell : FSpec := spOf false 2 2 w__law_cell

def w_passes_stop : DS := (dSeq (dIfS (dAnd (dTest (dNotN (dOp rIx (dVar 0) (dC (.int 1))))) (dNot (dTru (dCall PG.sp_is_at_most [] (dCons (dOp rIx (dVar 0) (dC (.int 1))) (dCons (dVar 1) dNil))))))
  (dRet (dC (.bl false)))
  dNext)
  (dRet (dOrV (dIsN (dOp rIx (dVar 0) (dC (.int 2)))) (dCall PG.sp_is_at_most [] (dCons (dVar 1) (dCons (dOp rIx (dVar 0) (dC (.int 2))) dNil))))))
@[irreducible] def sp_passes_stop : FSpec := spOf false 2 2 w_passes_stop

def w_gone_through : DS := (dSeq (dAsg (dVar 1) (.tp [2, 3]))
  (dSeq (dIfS (dTest (dOp rEq (dOp rIx (dVar 0) (dC (.int 0))) (dC (.str ("gap" : Str)))))
  (dRet (dTup (dCons (dCall PG.sp_add [] (dCons (dVar 2) (dCons (dCall PG.sp_multiply [] (dCons (dOp rIx (dVar 0) (dC (.int 1))) (dCons (dVar 3) dNil))) dNil))) (dCons (dVar 3) dNil))))
  dNext)
  (dSeq (dIfS (dTest (dOp rEq (dOp rIx (dVar 0) (dC (.int 0))) (dC (.str ("lens" : Str)))))
  (dRet (dTup (dCons (dVar 2) (dCons (dCall PG.sp_subtract [] (dCons (dVar 3) (dCons (dCall PG.sp_multiply [] (dCons (dOp rIx (dVar 0) (dC (.int 1))) (dCons (dCall PG.sp_subtract [] (dCons (dVar 2) (dCons (dOp rIx (dVar 0) (dC (.int 2))) dNil))) dNil))) dNil))) dNil))))
  dNext)
  (dSeq (dIfS (dTest (dOp rEq (dOp rIx (dVar 0) (dC (.int 0))) (dC (.str ("prism" : Str)))))
  (dRet (dTup (dCons (dVar 2) (dCons (dCall PG.sp_add [] (dCons (dVar 3) (dCons (dOp rIx (dVar 0) (dC (.int 1))) dNil))) dNil))))
  dNext)
  (dSeq (dIfS (dTest (dOp rEq (dOp rIx (dVar 0) (dC (.int 0))) (dC (.str ("afocal" : Str)))))
  (dRet (dTup (dCons (dCall PG.sp_multiply [] (dCons (dOp rIx (dVar 0) (dC (.int 1))) (dCons (dVar 2) dNil))) (dCons (dCall PG.sp_divide [] (dCons (dVar 3) (dCons (dOp rIx (dVar 0) (dC (.int 1))) dNil))) dNil))))
  dNext)
  (dSeq (dIfS (dTru (dCall PG.sp_passes_stop [] (dCons (dVar 0) (dCons (dVar 2) dNil))))
  (dRet (dVar 1))
  dNext)
  (dRet (dC .non))))))))
@[irreducible] def sp_gone_through : FSpec := spOf false 2 4 w_gone_through

def w__law_row : DS := (dSeq (dSet 3 (dLstO dNil))
  (dSeq (dIfS (dTest (dOp rLt (dVar 0) (dC (.int 0))))
  (dSet 0 (dOp rSub (dC (.int 1)) (dOp rMul (dC (.int 2)) (dVar 0))))
  dNext)
  (dSeq (dIfS (dTest (dOp rGe (dVar 0) (dOp rPow (dC (.int 10)) (dC (.int 18)))))
  (dSeq (dFor (dRange1 (dCons (dC (.int 60)) dNil)) (.nm 4)
  (dIfS (dAnd (dTest (dOp rGt (dVar 0) (dC (.int 0)))) (dTest (dOp rLt (dBi bLen (dCons (dVar 3) dNil)) (dVar 2))))
  (dSeq (dDo (dMeth mAppend (dVar 3) (dCons (dOp rMod (dBi bInt (dCons (dVar 0) dNil)) (dC (.int 1000))) dNil)))
  (dSet 0 (dOp rDiv (dVar 0) (dC (.int 1000)))))
  dNext))
  (dRet (dVar 3)))
  dNext)
  (dSeq (dSet 5 (dOp rMod (dBi bInt (dCons (dOp rAddA (dOp rAddA (dOp rMul (dVar 0) (dC (.int 48271))) (dOp rMul (dVar 1) (dC (.int 69621)))) (dC (.int 11))) dNil)) (dC (.int 2147483647))))
  (dSeq (dFor (dRange1 (dCons (dVar 2) dNil)) (.nm 4)
  (dSeq (dSet 5 (dOp rMod (dBi bInt (dCons (dOp rAddA (dOp rAddA (dOp rMul (dVar 5) (dC (.int 16807))) (dOp rMul (dC (.int 7)) (dVar 4))) (dC (.int 1))) dNil)) (dC (.int 2147483647))))
  (dDo (dMeth mAppend (dVar 3) (dCons (dOp rMod (dBi bInt (dCons (dOp rDiv (dVar 5) (dC (.int 997))) dNil)) (dC (.int 1000))) dNil)))))
  (dRet (dVar 3)))))))
@[irreducible] def sp__law_row : FSpec := spOf false 3 6 w__law_row

def w__law_box : DS := (dSeq (dSet 3 (dLst dNil))
  (dSeq (dFor (dRange2 (dCons (dVar 1) (dCons (dVar 2) dNil))) (.nm 4)
  (dSet 3 (dOp rAddA (dVar 3) (dCall PG.sp__law_row [] (dCons (dCall PG.sp__law_cell [] (dCons (dVar 0) (dCons (dVar 4) dNil))) (dCons (dVar 4) (dCons (dC (.int 12)) dNil)))))))
  (dRet (dLstO (dCons (dVar 3) (dCons (dC (.int 0)) dNil))))))
@[irreducible] def sp__law_box : FSpec := spOf true 3 5 w__law_box

def w__law_draw_2 : DS := (dSeq (dSet 2 (dOp rIx (dVar 0) (dC (.int 1))))
  (dSeq (dSetIx (dOp rAddA (dVar 2) (dC (.int 1))) (dVar 0) (dC (.int 1)))
  (dSeq (dIfS (dTest (dOp rLt (dVar 2) (dBi bLen (dCons (dOp rIx (dVar 0) (dC (.int 0))) dNil))))
  (dRet (dOp rMod (dBi bInt (dCons (dOp rIx (dOp rIx (dVar 0) (dC (.int 0))) (dVar 2)) dNil)) (dVar 1)))
  dNext)
  (dRet (dOp rMod (dBi bInt (dCons (dOp rAddA (dOp rMul (dVar 2) (dC (.int 7))) (dC (.int 3))) dNil)) (dVar 1))))))
@[irreducible] def sp__law_draw_2 : FSpec := spOf false 2 3 w__law_draw_2

def w__law_same : DS := (dRet (dOp rEqT (dBi bRepr (dCons (dVar 0) dNil)) (dBi bRepr (dCons (dVar 1) dNil))))
@[irreducible] def sp__law_same : FSpec := spOf false 2 2 w__law_same

def w__law_frac : DS := (dSeq (dSet 2 (dBi bAbs (dCons (dVar 0) dNil)))
  (dSeq (dSet 3 (dBi bAbs (dCons (dVar 1) dNil)))
  (dSeq (dWhile (dTest (dOp rGt (dVar 3) (dC (.int 0))))
  (dPar 2 3 (dCons (dVar 3) (dCons (dOp rMod (dBi bInt (dCons (dVar 2) dNil)) (dBi bInt (dCons (dVar 3) dNil))) dNil))))
  (dSeq (dIfS (dTest (dOp rLt (dVar 1) (dC (.int 0))))
  (dSet 2 (rU rNeg (dVar 2)))
  dNext)
  (dRet (dTup (dCons (dOp rDiv (dVar 0) (dVar 2)) (dCons (dOp rDiv (dVar 1) (dVar 2)) dNil))))))))
@[irreducible] def sp__law_frac : FSpec := spOf false 2 4 w__law_frac

def w__law_add_2 : DS := (dRet (dCall PG.sp__law_frac [] (dCons (dOp rAddA (dOp rMul (dOp rIx (dVar 0) (dC (.int 0))) (dOp rIx (dVar 1) (dC (.int 1)))) (dOp rMul (dOp rIx (dVar 1) (dC (.int 0))) (dOp rIx (dVar 0) (dC (.int 1))))) (dCons (dOp rMul (dOp rIx (dVar 0) (dC (.int 1))) (dOp rIx (dVar 1) (dC (.int 1)))) dNil))))
@[irreducible] def sp__law_add_2 : FSpec := spOf false 2 2 w__law_add_2

def w__law_fraction : DS := (dRet (dCall PG.sp__law_frac [] (dCons (dOp rSub (dCall PG.sp__law_draw_2 [] (dCons (dVar 0) (dCons (dC (.int 9)) dNil))) (dC (.int 4))) (dCons (dOp rIx (dLst (dCons (dC (.int 1)) (dCons (dC (.int 1)) (dCons (dC (.int 2)) (dCons (dC (.int 3)) dNil))))) (dCall PG.sp__law_draw_2 [] (dCons (dVar 0) (dCons (dC (.int 4)) dNil)))) dNil))))
@[irreducible] def sp__law_fraction : FSpec := spOf false 1 1 w__law_fraction

def w__law_nonzero : DS := (dSeq (dSet 1 (dCall PG.sp__law_fraction [] (dCons (dVar 0) dNil)))
  (dSeq (dIfS (dTest (dOp rEq (dOp rIx (dVar 1) (dC (.int 0))) (dC (.int 0))))
  (dRet (dTup (dCons (dC (.int 1)) (dCons (dC (.int 2)) dNil))))
  dNext)
  (dRet (dVar 1))))
@[irreducible] def sp__law_nonzero : FSpec := spOf false 1 2 w__law_nonzero

def w__law_stop_2 : DS := (dSeq (dSet 1 (dCall PG.sp__law_fraction [] (dCons (dVar 0) dNil)))
  (dSeq (dSet 2 (dCall PG.sp__law_add_2 [] (dCons (dVar 1) (dCons (dCall PG.sp__law_frac [] (dCons (dCall PG.sp__law_draw_2 [] (dCons (dVar 0) (dCons (dC (.int 9)) dNil))) (dCons (dC (.int 2)) dNil))) dNil))))
  (dSeq (dSet 3 (dCall PG.sp__law_draw_2 [] (dCons (dVar 0) (dCons (dC (.int 8)) dNil))))
  (dSeq (dIfS (dTest (dOp rEq (dVar 3) (dC (.int 0))))
  (dRet (dTup (dCons (dC (.str ("stop" : Str))) (dCons (dC .non) (dCons (dVar 2) dNil)))))
  dNext)
  (dSeq (dIfS (dTest (dOp rEq (dVar 3) (dC (.int 1))))
  (dRet (dTup (dCons (dC (.str ("stop" : Str))) (dCons (dVar 1) (dCons (dC .non) dNil)))))
  dNext)
  (dRet (dTup (dCons (dC (.str ("stop" : Str))) (dCons (dVar 1) (dCons (dVar 2) dNil))))))))))
@[irreducible] def sp__law_stop_2 : FSpec := spOf false 1 4 w__law_stop_2

def w__law_element_2 : DS := (dSeq (dSet 1 (dCall PG.sp__law_draw_2 [] (dCons (dVar 0) (dCons (dC (.int 9)) dNil))))
  (dSeq (dIfS (dTest (dOp rLt (dVar 1) (dC (.int 2))))
  (dRet (dTup (dCons (dC (.str ("gap" : Str))) (dCons (dCall PG.sp__law_fraction [] (dCons (dVar 0) dNil)) dNil))))
  dNext)
  (dSeq (dIfS (dTest (dOp rLt (dVar 1) (dC (.int 4))))
  (dRet (dTup (dCons (dC (.str ("lens" : Str))) (dCons (dCall PG.sp__law_fraction [] (dCons (dVar 0) dNil)) (dCons (dOp rIx (dLst (dCons (dTup (dCons (dC (.int 0)) (dCons (dC (.int 1)) dNil))) (dCons (dCall PG.sp__law_fraction [] (dCons (dVar 0) dNil)) dNil))) (dCall PG.sp__law_draw_2 [] (dCons (dVar 0) (dCons (dC (.int 2)) dNil)))) dNil)))))
  dNext)
  (dSeq (dIfS (dTest (dOp rEq (dVar 1) (dC (.int 4))))
  (dRet (dTup (dCons (dC (.str ("prism" : Str))) (dCons (dCall PG.sp__law_fraction [] (dCons (dVar 0) dNil)) dNil))))
  dNext)
  (dSeq (dIfS (dTest (dOp rEq (dVar 1) (dC (.int 5))))
  (dRet (dTup (dCons (dC (.str ("afocal" : Str))) (dCons (dCall PG.sp__law_nonzero [] (dCons (dVar 0) dNil)) dNil))))
  dNext)
  (dRet (dCall PG.sp__law_stop_2 [] (dCons (dVar 0) dNil))))))))
@[irreducible] def sp__law_element_2 : FSpec := spOf false 1 2 w__law_element_2

def w__law_train_2 : DS := (dRet (dLc false (dRange1 (dCons (dCall PG.sp__law_draw_2 [] (dCons (dVar 0) (dCons (dOp rAddA (dVar 1) (dC (.int 1))) dNil))) dNil)) (.nm 2) dYes (dCall PG.sp__law_element_2 [] (dCons (dVar 0) dNil)) [2]))
@[irreducible] def sp__law_train_2 : FSpec := spOf false 2 3 w__law_train_2

def v_SIGNS : Dt := .str ("0123456789abcdefghijklmnopqrstuvwxyz -/;" : Str)

def w_sign_of : DS := (dSeq (dFor (dSgn (dC PG.v_SIGNS)) (.nm 1)
  (dIfS (dTest (dOp rEq (dBi bOrd (dCons (dVar 1) dNil)) (dVar 0)))
  (dRet (dVar 1))
  dNext))
  (dRet (dC .non)))
@[irreducible] def sp_sign_of : FSpec := spOf false 1 2 w_sign_of

def v_MOST : Dt := .int 20

def w_Bench___init__ : DSO := (xSeq (xIf (xT fun _ => (dTest (dOp rGt (dBi bLen (dCons (dVar 1) dNil)) (dC PG.v_MOST))))
  (xRaise0 ("TrainFull" : Str))
  xNext)
  (xSeq (xFld 0 "Bench" "initial" (xE fun _ => (dBi bList (dCons (dVar 1) dNil))))
  (xFld 0 "Bench" "later" (xE fun _ => (dLstO dNil)))))
@[irreducible] def sp_Bench___init__ : FSpecO := spOO 2 2 w_Bench___init__

def w_Bench_train : DSO := (xSeq (xS fun os => (dIfS (dTru (dFld os "Bench" "later" (dVar 0)))
  (dRet (dBi bList (dCons (dOp rIx (dFld os "Bench" "later" (dVar 0)) (rU rNeg (dC (.int 1)))) dNil)))
  dNext))
  (xS fun os => (dRet (dBi bList (dCons (dFld os "Bench" "initial" (dVar 0)) dNil)))))
@[irreducible] def sp_Bench_train : FSpecO := spOO 1 1 w_Bench_train

def w_Bench_operations : DSO := (xS fun os => (dRet (dBi bLen (dCons (dFld os "Bench" "later" (dVar 0)) dNil))))
@[irreducible] def sp_Bench_operations : FSpecO := spOO 1 1 w_Bench_operations

def w_Bench_put : DSO := (xSeq (xSet 3 (xMeth "Bench" "train" PG.sp_Bench_train (xE fun _ => (dVar 0)) xNil))
  (xSeq (xIf (xT fun _ => (dNot (dTest (dChainI (fun i j => decide (i ≤ j)) (fun i j => decide (i ≤ j)) (dC (.int 0)) (dVar 1) (dBi bLen (dCons (dVar 3) dNil))))))
  (xRaise ("NoSuchPosition" : Str) (xE fun _ => (dVar 1)))
  xNext)
  (xSeq (xIf (xT fun _ => (dTest (dOp rGe (dBi bLen (dCons (dVar 3) dNil)) (dC PG.v_MOST))))
  (xRaise0 ("TrainFull" : Str))
  xNext)
  (xSeq (xS fun os => (dDo (dMeth mAppend (dFld os "Bench" "later" (dVar 0)) (dCons (dOp rAddA (dOp rAddA (dSl false (dVar 3) dNoP (dPart (dVar 1))) (dLst (dCons (dVar 2) dNil))) (dSl false (dVar 3) (dPart (dVar 1)) dNoP)) dNil))))
  (xS fun _ => (dRet (dOp rAddA (dBi bLen (dCons (dVar 3) dNil)) (dC (.int 1)))))))))
@[irreducible] def sp_Bench_put : FSpecO := spOO 3 4 w_Bench_put

def w_Bench_take : DSO := (xSeq (xSet 2 (xMeth "Bench" "train" PG.sp_Bench_train (xE fun _ => (dVar 0)) xNil))
  (xSeq (xIf (xT fun _ => (dNot (dTest (dChainI (fun i j => decide (i ≤ j)) (fun i j => decide (i < j)) (dC (.int 0)) (dVar 1) (dBi bLen (dCons (dVar 2) dNil))))))
  (xRaise ("NoSuchElement" : Str) (xE fun _ => (dVar 1)))
  xNext)
  (xSeq (xS fun os => (dDo (dMeth mAppend (dFld os "Bench" "later" (dVar 0)) (dCons (dOp rAddA (dSl false (dVar 2) dNoP (dPart (dVar 1))) (dSl false (dVar 2) (dPart (dOp rAddA (dVar 1) (dC (.int 1)))) dNoP)) dNil))))
  (xS fun _ => (dRet (dOp rIx (dVar 2) (dVar 1)))))))
@[irreducible] def sp_Bench_take : FSpecO := spOO 2 3 w_Bench_take

def w_Bench_exchange : DSO := (xSeq (xSet 3 (xMeth "Bench" "train" PG.sp_Bench_train (xE fun _ => (dVar 0)) xNil))
  (xSeq (xIf (xT fun _ => (dNot (dTest (dChainI (fun i j => decide (i ≤ j)) (fun i j => decide (i < j)) (dC (.int 0)) (dVar 1) (dBi bLen (dCons (dVar 3) dNil))))))
  (xRaise ("NoSuchElement" : Str) (xE fun _ => (dVar 1)))
  xNext)
  (xSeq (xS fun os => (dDo (dMeth mAppend (dFld os "Bench" "later" (dVar 0)) (dCons (dOp rAddA (dOp rAddA (dSl false (dVar 3) dNoP (dPart (dVar 1))) (dLst (dCons (dVar 2) dNil))) (dSl false (dVar 3) (dPart (dOp rAddA (dVar 1) (dC (.int 1)))) dNoP)) dNil))))
  (xS fun _ => (dRet (dOp rIx (dVar 3) (dVar 1)))))))
@[irreducible] def sp_Bench_exchange : FSpecO := spOO 3 4 w_Bench_exchange

def w_Bench_undo : DSO := (xSeq (xS fun os => (dIfS (dNot (dTru (dFld os "Bench" "later" (dVar 0))))
  (dRet (dC (.bl false)))
  dNext))
  (xSeq (xS fun os => (dDo (dMeth mPop (dFld os "Bench" "later" (dVar 0)) dNil)))
  (xS fun _ => (dRet (dC (.bl true))))))
@[irreducible] def sp_Bench_undo : FSpecO := spOO 1 1 w_Bench_undo

def w_Bench_history : DSO := (xS fun os => (dRet (dLc false (dAny (dFld os "Bench" "later" (dVar 0))) (.nm 1) dYes (dBi bList (dCons (dVar 1) dNil)) [1])))
@[irreducible] def sp_Bench_history : FSpecO := spOO 1 2 w_Bench_history

def w__law_done : DS := (dSeq (dSet 2 (dOp rIx (dVar 0) (rU rNeg (dC (.int 1)))))
  (dSeq (dIfS (dTest (dOp rEq (dOp rIx (dVar 1) (dC (.int 0))) (dC (.str ("undo" : Str)))))
  (dSeq (dIfS (dTest (dOp rEq (dBi bLen (dCons (dVar 0) dNil)) (dC (.int 1))))
  (dRet (dLst (dCons (dTup (dCons (dC (.str ("told" : Str))) (dCons (dC (.bl false)) dNil))) (dCons (dVar 0) dNil))))
  dNext)
  (dRet (dLst (dCons (dTup (dCons (dC (.str ("told" : Str))) (dCons (dC (.bl true)) dNil))) (dCons (dSl false (dVar 0) dNoP (dPart (rU rNeg (dC (.int 1))))) dNil)))))
  dNext)
  (dSeq (dSet 3 (dOp rIx (dVar 1) (dC (.int 1))))
  (dSeq (dIfS (dTest (dOp rEq (dOp rIx (dVar 1) (dC (.int 0))) (dC (.str ("put" : Str)))))
  (dSeq (dIfS (dNot (dTest (dChainI (fun i j => decide (i ≤ j)) (fun i j => decide (i ≤ j)) (dC (.int 0)) (dVar 3) (dBi bLen (dCons (dVar 2) dNil)))))
  (dRet (dLst (dCons (dTup (dCons (dC (.str ("position" : Str))) (dCons (dVar 3) dNil))) (dCons (dVar 0) dNil))))
  dNext)
  (dSeq (dIfS (dTest (dOp rEq (dBi bLen (dCons (dVar 2) dNil)) (dC (.int 20))))
  (dRet (dLst (dCons (dTup (dCons (dC (.str ("full" : Str))) dNil)) (dCons (dVar 0) dNil))))
  dNext)
  (dRet (dLst (dCons (dTup (dCons (dC (.str ("told" : Str))) (dCons (dOp rAddA (dBi bLen (dCons (dVar 2) dNil)) (dC (.int 1))) dNil))) (dCons (dOp rAddA (dVar 0) (dLst (dCons (dOp rAddA (dOp rAddA (dSl false (dVar 2) dNoP (dPart (dVar 3))) (dLst (dCons (dOp rIx (dVar 1) (dC (.int 2))) dNil))) (dSl false (dVar 2) (dPart (dVar 3)) dNoP)) dNil))) dNil))))))
  dNext)
  (dSeq (dIfS (dNot (dTest (dChainI (fun i j => decide (i ≤ j)) (fun i j => decide (i < j)) (dC (.int 0)) (dVar 3) (dBi bLen (dCons (dVar 2) dNil)))))
  (dRet (dLst (dCons (dTup (dCons (dC (.str ("element" : Str))) (dCons (dVar 3) dNil))) (dCons (dVar 0) dNil))))
  dNext)
  (dSeq (dSet 4 (dOp rIx (dLst (dCons (dLst dNil) (dCons (dLst (dCons (dOp rIx (dVar 1) (rU rNeg (dC (.int 1)))) dNil)) dNil))) (dBi bInt (dCons (dOp rEq (dOp rIx (dVar 1) (dC (.int 0))) (dC (.str ("exchange" : Str)))) dNil))))
  (dRet (dLst (dCons (dTup (dCons (dC (.str ("told" : Str))) (dCons (dOp rIx (dVar 2) (dVar 3)) dNil))) (dCons (dOp rAddA (dVar 0) (dLst (dCons (dOp rAddA (dOp rAddA (dSl false (dVar 2) dNoP (dPart (dVar 3))) (dVar 4)) (dSl false (dVar 2) (dPart (dOp rAddA (dVar 3) (dC (.int 1)))) dNoP)) dNil))) dNil))))))))))
@[irreducible] def sp__law_done : FSpec := spOf false 2 5 w__law_done

def w__law_operation : DS := (dSeq (dSet 2 (dCall PG.sp__law_draw_2 [] (dCons (dVar 0) (dCons (dC (.int 9)) dNil))))
  (dSeq (dSet 3 (dCall PG.sp__law_draw_2 [] (dCons (dVar 0) (dCons (dOp rAddA (dVar 1) (dC (.int 1))) dNil))))
  (dSeq (dIfS (dTest (dOp rEq (dCall PG.sp__law_draw_2 [] (dCons (dVar 0) (dCons (dC (.int 8)) dNil))) (dC (.int 0))))
  (dSet 3 (dOp rIx (dLst (dCons (rU rNeg (dC (.int 1))) (dCons (dOp rAddA (dVar 1) (dC (.int 1))) (dCons (dVar 1) (dCons (dC (.int 30)) dNil))))) (dCall PG.sp__law_draw_2 [] (dCons (dVar 0) (dCons (dC (.int 4)) dNil)))))
  dNext)
  (dSeq (dIfS (dTest (dOp rLt (dVar 2) (dC (.int 4))))
  (dRet (dTup (dCons (dC (.str ("put" : Str))) (dCons (dVar 3) (dCons (dCall PG.sp__law_element_2 [] (dCons (dVar 0) dNil)) dNil)))))
  dNext)
  (dSeq (dIfS (dTest (dOp rLt (dVar 2) (dC (.int 6))))
  (dRet (dTup (dCons (dC (.str ("take" : Str))) (dCons (dVar 3) dNil))))
  dNext)
  (dSeq (dIfS (dTest (dOp rLt (dVar 2) (dC (.int 8))))
  (dRet (dTup (dCons (dC (.str ("exchange" : Str))) (dCons (dVar 3) (dCons (dCall PG.sp__law_element_2 [] (dCons (dVar 0) dNil)) dNil)))))
  dNext)
  (dRet (dTup (dCons (dC (.str ("undo" : Str))) dNil)))))))))
@[irreducible] def sp__law_operation : FSpec := spOf false 2 4 w__law_operation

def w_Bench_train_own : DSO := (xSeq (xIf (xT fun os => (dTru (dFld os "Bench" "later" (dVar 0))))
  (xRet (xE fun os => (dListO (dCons (dOp rIx (dFld os "Bench" "later" (dVar 0)) (rU rNeg (dC (.int 1)))) dNil))))
  xNext)
  (xRet (xE fun os => (dListO (dCons (dFld os "Bench" "initial" (dVar 0)) dNil)))))
@[irreducible] def sp_Bench_train_own : FSpecO := spOO 1 1 w_Bench_train_own

def w_Bench_history_own : DSO := (xRet (xE fun os => (dLc true (dAny (dFld os "Bench" "later" (dVar 0))) (.nm 1) dYes (dBi bList (dCons (dVar 1) dNil)) [1])))
@[irreducible] def sp_Bench_history_own : FSpecO := spOO 1 2 w_Bench_history_own

def w_Bench_branch_2 : DSO := (xSeq (xSet 1 (xMake "Bench" PG.sp_Bench___init__ (xA fun os => (dCons (dFld os "Bench" "initial" (dVar 0)) dNil))))
  (xSeq (xFld 1 "Bench" "later" (xE fun os => (dLc true (dAny (dFld os "Bench" "later" (dVar 0))) (.nm 2) dYes (dBi bList (dCons (dVar 2) dNil)) [2])))
  (xS fun _ => (dRet (dVar 1)))))
@[irreducible] def sp_Bench_branch_2 : FSpecO := spOO 1 3 w_Bench_branch_2

def w__law_tried : DSO := (xTryM
  (xSeq (xIf (xT fun _ => (dTest (dOp rEq (dOp rIx (dVar 1) (dC (.int 0))) (dC (.str ("put" : Str))))))
  (xRet (xTup (xCons (xE fun _ => (dC (.str ("told" : Str)))) (xCons (xMeth "Bench" "put" PG.sp_Bench_put (xE fun _ => (dVar 0)) (xA fun _ => (dCons (dOp rIx (dVar 1) (dC (.int 1))) (dCons (dOp rIx (dVar 1) (dC (.int 2))) dNil)))) xNil))))
  xNext)
  (xSeq (xIf (xT fun _ => (dTest (dOp rEq (dOp rIx (dVar 1) (dC (.int 0))) (dC (.str ("take" : Str))))))
  (xRet (xTup (xCons (xE fun _ => (dC (.str ("told" : Str)))) (xCons (xMeth "Bench" "take" PG.sp_Bench_take (xE fun _ => (dVar 0)) (xA fun _ => (dCons (dOp rIx (dVar 1) (dC (.int 1))) dNil))) xNil))))
  xNext)
  (xSeq (xIf (xT fun _ => (dTest (dOp rEq (dOp rIx (dVar 1) (dC (.int 0))) (dC (.str ("exchange" : Str))))))
  (xRet (xTup (xCons (xE fun _ => (dC (.str ("told" : Str)))) (xCons (xMeth "Bench" "exchange" PG.sp_Bench_exchange (xE fun _ => (dVar 0)) (xA fun _ => (dCons (dOp rIx (dVar 1) (dC (.int 1))) (dCons (dOp rIx (dVar 1) (dC (.int 2))) dNil)))) xNil))))
  xNext)
  (xRet (xTup (xCons (xE fun _ => (dC (.str ("told" : Str)))) (xCons (xMeth "Bench" "undo" PG.sp_Bench_undo (xE fun _ => (dVar 0)) xNil) xNil)))))))
  [(some 2, [(("NoSuchPosition" : Str), (fun a bd os => (dRet (dTup (dCons (dC (.str ("position" : Str))) (dCons (dXf os 2 ("NoSuchPosition" : Str) a bd) dNil))))))]), (some 2, [(("NoSuchElement" : Str), (fun a bd os => (dRet (dTup (dCons (dC (.str ("element" : Str))) (dCons (dXf os 2 ("NoSuchElement" : Str) a bd) dNil))))))]), (none, [(("TrainFull" : Str), (fun a bd os => (dRet (dTup (dCons (dC (.str ("full" : Str))) dNil)))))])])
@[irreducible] def sp__law_tried : FSpecO := spOO 2 3 w__law_tried

def w__law_right : DSO := (xRet (xCall (spUp PG.sp__law_same) (xCons (xLst (xCons (xMeth "Bench" "train" PG.sp_Bench_train (xE fun _ => (dVar 0)) xNil) (xCons (xMeth "Bench" "operations" PG.sp_Bench_operations (xE fun _ => (dVar 0)) xNil) (xCons (xMeth "Bench" "history" PG.sp_Bench_history (xE fun _ => (dVar 0)) xNil) xNil)))) (xCons (xE fun _ => (dLst (dCons (dOp rIx (dVar 1) (rU rNeg (dC (.int 1)))) (dCons (dOp rSub (dBi bLen (dCons (dVar 1) dNil)) (dC (.int 1))) (dCons (dSl false (dVar 1) (dPart (dC (.int 1))) dNoP) dNil))))) xNil))))
@[irreducible] def sp__law_right : FSpecO := spOO 2 2 w__law_right

def w__law_refused : DSO := (xSeq (xTry0
  (xDo (xMake "Bench" PG.sp_Bench___init__ (xA fun _ => (dCons (dVar 0) dNil))))
  [(("TrainFull" : Str), (fun os => (dRet (dC (.bl true)))))])
  (xS fun _ => (dRet (dC (.bl false)))))
@[irreducible] def sp__law_refused : FSpecO := spOO 1 1 w__law_refused

def w_law_52 : DSO := (xSeq (xS fun _ => (dSet 1 (dCall PG.sp__law_box [] (dCons (dVar 0) (dCons (dC (.int 0)) (dCons (dC (.int 50)) dNil))))))
  (xSeq (xS fun _ => (dSet 2 (dCall PG.sp__law_train_2 [] (dCons (dVar 1) (dCons (dC (.int 5)) dNil)))))
  (xSeq (xS fun _ => (dIfS (dTest (dOp rEq (dCall PG.sp__law_draw_2 [] (dCons (dVar 1) (dCons (dC (.int 4)) dNil))) (dC (.int 0))))
  (dSet 2 (dLc false (dRange1 (dCons (dOp rAddA (dC (.int 18)) (dCall PG.sp__law_draw_2 [] (dCons (dVar 1) (dCons (dC (.int 4)) dNil)))) dNil)) (.nm 14) dYes (dTup (dCons (dC (.str ("gap" : Str))) (dCons (dTup (dCons (dVar 14) (dCons (dC (.int 1)) dNil))) dNil))) [14]))
  dNext))
  (xSeq (xS fun _ => (dSet 3 (dBi bList (dCons (dVar 2) dNil))))
  (xSeq (xIf (xT fun _ => (dTest (dOp rGt (dBi bLen (dCons (dVar 2) dNil)) (dC (.int 20)))))
  (xRet (xCall PG.sp__law_refused (xA fun _ => (dCons (dVar 3) dNil))))
  xNext)
  (xGrpP 4 (xMake "Bench" PG.sp_Bench___init__ (xA fun _ => (dCons (dVar 3) dNil))) (xE fun _ => (dLst (dCons (dBi bList (dCons (dVar 2) dNil)) dNil)))
  (gSeqO (gForO (dRange1 (dCons (dC (.int 14)) dNil)) (.nm 5)
  (gSeqO (gSetL 6 (spUp PG.sp__law_draw_2) (xE fun _ => (dVar 1)) 4)
  (gSeqO (gUnp 4 6 7 8)
  (gSeqO (gIfO (fun kg ps => xAnd (xT fun _ => (dTest (dOp rEq (dCall PG.sp__law_draw_2 [] (dCons (dVar 1) (dCons (dC (.int 9)) dNil))) (dC (.int 0))))) (gLenLt 4 3 kg ps))
  (gAppP 4 (xMeth "Bench" "branch" PG.sp_Bench_branch_2 (xE fun _ => (dVar 7)) xNil) (xE fun _ => (dVar 8)))
  (gSeqO (gJ (xS fun _ => (dSet 9 (dCall PG.sp__law_operation [] (dCons (dVar 1) (dCons (dBi bLen (dCons (dOp rIx (dVar 8) (rU rNeg (dC (.int 1)))) dNil)) dNil))))))
  (gSeqO (gJ (xS fun _ => (dAsgL (dCall PG.sp__law_done [] (dCons (dVar 8) (dCons (dVar 9) dNil))) [10, 11])))
  (gSeqO (gJ (xIf (xNot (xTru (xCall (spUp PG.sp__law_same) (xCons (xCall PG.sp__law_tried (xA fun _ => (dCons (dVar 7) (dCons (dVar 9) dNil)))) (xCons (xE fun _ => (dVar 10)) xNil)))))
  (xS fun _ => (dRet (dC (.bl false))))
  xNext))
  (gPut 4 6 (xE fun _ => (dVar 11)))))))
  (gSeqO (gJ (xDo (xAppO (xMeth "Bench" "train" PG.sp_Bench_train_own (xE fun _ => (dVar 7)) xNil) (xA fun _ => (dCons (dTup (dCons (dC (.str ("gap" : Str))) (dCons (dTup (dCons (dC (.int 5)) (dCons (dC (.int 1)) dNil))) dNil))) dNil)))))
  (gSeqO (gJ (xDo (xAppO (xMeth "Bench" "history" PG.sp_Bench_history_own (xE fun _ => (dVar 7)) xNil) (xA fun _ => (dCons (dLst dNil) dNil)))))
  (gForP 4 12 13
  (xIf (xNot (xTru (xCall PG.sp__law_right (xA fun _ => (dCons (dVar 12) (dCons (dVar 13) dNil))))))
  (xS fun _ => (dRet (dC (.bl false))))
  xNext))))))))
  (gJ (xS fun _ => (dRet (dC (.bl true))))))))))))
@[irreducible] def sp_law_52 : FSpecO := spOO 1 15 w_law_52

end PG

set_option maxRecDepth 100000
set_option maxHeartbeats 4000000
namespace PG
open PySem PySem.Spec PyProof.Rows L2 RT
theorem abs_eq (a : Int) : (if a < 0 then -a else a) = (a.natAbs : Int) := by
  split <;> omega
theorem gcd_ok {a b : Int} {st : List Cell} {Q : Vl → List Cell → Prop} (h : Q (.d (.int (Int.gcd a b : Int))) st) : sp_common_divisor [.d (.int a), .d (.int b)] st Q := by
  unfold sp_common_divisor
  refine ⟨rfl, ?_⟩
  refine ⟨fun n m => ∃ x y : Nat, m = ⟨[some (.d (.int a)), some (.d (.int b)), some (.d (.int x)), some (.d (.int y))], st⟩ ∧ n = y ∧ Nat.gcd x y = Int.gcd a b, ⟨b.natAbs, a.natAbs, b.natAbs, ?_, rfl, rfl⟩, ?_⟩
  · rw [← abs_eq a, ← abs_eq b]
    rfl
  · rintro y m ⟨x, _, rfl, rfl, hg⟩
    refine ⟨trivial, ?_⟩
    show if (decide ((0 : Int) < y)) = true then _ else _
    by_cases hy : (0 : Int) < y
    · rw [if_pos (decide_eq_true hy)]
      refine ⟨by omega, ?_⟩
      refine ⟨x % y, Nat.mod_lt _ (by omega), y, x % y, ?_, rfl, ?_⟩
      · rw [Int.natCast_emod, ← Int.fmod_eq_emod_of_nonneg _ (by omega)]
        rfl
      · rw [← hg, Nat.gcd_comm x y, Nat.gcd_rec y x, Nat.gcd_comm]
    · rw [if_neg (by simp; omega)]
      have e : y = 0 := by omega
      subst e
      rw [Nat.gcd_zero_right] at hg
      show Q (.d (.int x)) (st.take st.length)
      rw [List.take_length, hg]
      exact h

theorem ret_ok {kp : Bool} {st : List Cell} {Q : Vl → List Cell → Prop} {x : Dt} {sl : List (Option Vl)} (h : Q (.d x) st) : retD kp st.length Q (.d x) ⟨sl, st⟩ := by
  show Q (.d x) (st.take st.length)
  rw [List.take_length]
  exact h
theorem tk {st : List Cell} {Q : Vl → List Cell → Prop} {v : Vl} (h : Q v st) : Q v (st.take st.length) := by
  rw [List.take_length]
  exact h
def fr (q : Rat) : Dt := .tup [.int q.num, .int q.den]
def zb (q : Rat) : Nat := max q.num.natAbs.log2 q.den.log2 + 2
theorem lineN {n : Nat} (h : Nat.ble n 1000 = true) : n ≤ sizeLine := Nat.le_trans (Nat.le_of_ble_eq_true h) (by decide)
theorem sign_self (d : Int) : d.sign * d = (d.natAbs : Int) := by
  rcases Int.lt_trichotomy d 0 with h | h | h
  · rw [Int.sign_eq_neg_one_of_neg h]
    omega
  · subst h
    rfl
  · rw [Int.sign_eq_one_of_pos h]
    omega
theorem sgn_div {n g s : Int} (hg : g ≠ 0) (h : g ∣ n) (hs : s = 1 ∨ s = -1) : n.fdiv (s * g) = s * n / g := by
  obtain ⟨k, rfl⟩ := h
  rcases hs with rfl | rfl
  · rw [Int.one_mul, Int.one_mul, Int.mul_fdiv_cancel_left _ hg, Int.mul_ediv_cancel_left _ hg]
  · rw [show g * k = (-1 * g) * (-k) by rw [Int.neg_one_mul, Int.neg_mul_neg], Int.mul_fdiv_cancel_left _ (by omega), show -1 * (-1 * g * -k) = g * (-k) by rw [Int.neg_one_mul, Int.neg_one_mul, Int.neg_mul, Int.neg_neg], Int.mul_ediv_cancel_left _ hg]
theorem fraction_ok {n d : Int} {st : List Cell} {Q : Vl → List Cell → Prop} (hd : d ≠ 0) (h : Q (.d (fr (Rat.divInt n d))) st) : sp_fraction [.d (.int n), .d (.int d)] st Q := by
  unfold sp_fraction
  refine ⟨rfl, ?_⟩
  refine gcd_ok ?_
  have hg : (Int.gcd n d : Int) ≠ 0 := by
    have : Int.gcd n d ≠ 0 := fun e => hd (Int.gcd_eq_zero_iff.mp e).2
    omega
  have hn : (Int.gcd n d : Int) ∣ n := Int.gcd_dvd_left ..
  have hd' : (Int.gcd n d : Int) ∣ d := Int.gcd_dvd_right ..
  have e1 : (Rat.divInt n d).num = d.sign * n / Int.gcd n d := by rw [Rat.num_divInt, Int.gcd_comm]
  have e2 : (((Rat.divInt n d).den : Nat) : Int) = d.sign * d / Int.gcd n d := by
    rw [Rat.den_divInt, if_neg hd, Int.natCast_ediv, Int.gcd_comm, sign_self]
  have fin : ∀ s : Int, (s = 1 ∨ s = -1) → s = d.sign → s * (Int.gcd n d : Int) ≠ 0 ∧ s * (Int.gcd n d : Int) ≠ 0 ∧ Q (.d (.tup [.int (n.fdiv (s * Int.gcd n d)), .int (d.fdiv (s * Int.gcd n d))])) st := fun s hs e => by
    refine ⟨by rcases hs with rfl | rfl <;> omega, by rcases hs with rfl | rfl <;> omega, ?_⟩
    rw [sgn_div hg hn hs, sgn_div hg hd' hs, e, ← e1, ← e2]
    exact h
  refine ⟨trivial, ?_⟩
  show if (decide (d < 0)) = true then _ else _
  by_cases hs : d < 0
  · rw [if_pos (decide_eq_true hs)]
    obtain ⟨a, b, c⟩ := fin (-1) (.inr rfl) (Int.sign_eq_neg_one_of_neg hs).symm
    rw [Int.neg_one_mul] at a b c
    exact ⟨a, b, lineN rfl, tk c⟩
  · rw [if_neg (by simp; omega)]
    obtain ⟨a, b, c⟩ := fin 1 (.inl rfl) (Int.sign_eq_one_of_pos (by omega)).symm
    rw [Int.one_mul] at a b c
    exact ⟨a, b, lineN rfl, tk c⟩

theorem log2_mul_le {a b : Nat} : (a * b).log2 ≤ a.log2 + b.log2 + 1 := by
  by_cases ha : a = 0
  · subst ha
    simp
  by_cases hb : b = 0
  · subst hb
    simp
  have h1 := Nat.lt_log2_self (n := a)
  have h2 := Nat.lt_log2_self (n := b)
  have h3 : a * b < 2 ^ (a.log2 + 1 + (b.log2 + 1)) := by
    rw [Nat.pow_add]
    exact Nat.mul_lt_mul'' h1 h2
  have h4 := (Nat.log2_lt (Nat.mul_ne_zero ha hb)).mpr h3
  omega
theorem log2_mono {a b : Nat} (h : a ≤ b) : a.log2 ≤ b.log2 := by
  by_cases ha : a = 0
  · subst ha
    simp
  have := Nat.lt_log2_self (n := b)
  have h4 := (Nat.log2_lt ha).mpr (Nat.lt_of_le_of_lt h this)
  omega
theorem log2_add_le {a b : Nat} : (a + b).log2 ≤ max a.log2 b.log2 + 1 := by
  have h1 : a + b ≤ 2 * max a b := by omega
  have h2 := log2_mono h1
  have h3 : (2 * max a b).log2 ≤ (max a b).log2 + 1 := by
    by_cases h : max a b = 0
    · rw [h]
      simp
    · rw [Nat.log2_two_mul h]
      exact Nat.le_refl _
  have h4 : (max a b).log2 ≤ max a.log2 b.log2 := by
    by_cases h : a ≤ b
    · rw [Nat.max_eq_right h]
      omega
    · rw [Nat.max_eq_left (by omega)]
      omega
  omega
theorem zb_divInt {n d : Int} (hd : d ≠ 0) : zb (Rat.divInt n d) ≤ max n.natAbs.log2 d.natAbs.log2 + 2 := by
  unfold zb
  have h1 : (Rat.divInt n d).num.natAbs ≤ n.natAbs := by
    rw [Rat.num_divInt]
    have : (d.sign * n / (d.gcd n : Int)).natAbs ≤ (d.sign * n).natAbs := Int.natAbs_ediv_le_natAbs ..
    rw [Int.natAbs_mul] at this
    have hs : d.sign.natAbs = 1 := by
      rcases Int.lt_or_gt_of_ne hd with h | h
      · rw [Int.sign_eq_neg_one_of_neg h]
        rfl
      · rw [Int.sign_eq_one_of_pos h]
        rfl
    rw [hs, Nat.one_mul] at this
    exact this
  have h2 : (Rat.divInt n d).den ≤ d.natAbs := by
    rw [Rat.den_divInt, if_neg hd]
    exact Nat.div_le_self ..
  have := log2_mono h1
  have := log2_mono h2
  omega
theorem zb_num (q : Rat) : q.num.natAbs.log2 + 2 ≤ zb q := by
  unfold zb
  omega
theorem zb_den (q : Rat) : q.den.log2 + 2 ≤ zb q := by
  unfold zb
  omega
theorem zb_add (x y : Rat) : zb (x + y) ≤ zb x + zb y := by
  have h := zb_divInt (n := x.num * y.den + y.num * x.den) (d := ((x.den * y.den : Nat) : Int)) (by
    have := x.den_nz
    have := y.den_nz
    have : x.den * y.den ≠ 0 := Nat.mul_ne_zero (by assumption) (by assumption)
    omega)
  rw [Rat.divInt_ofNat, ← Rat.add_def'] at h
  have hx1 := zb_num x
  have hx2 := zb_den x
  have hy1 := zb_num y
  have hy2 := zb_den y
  have m1 : (x.num * y.den).natAbs.log2 ≤ x.num.natAbs.log2 + y.den.log2 + 1 := by
    rw [Int.natAbs_mul, Int.natAbs_natCast]
    exact log2_mul_le
  have m2 : (y.num * x.den).natAbs.log2 ≤ y.num.natAbs.log2 + x.den.log2 + 1 := by
    rw [Int.natAbs_mul, Int.natAbs_natCast]
    exact log2_mul_le
  have m3 : (x.num * y.den + y.num * x.den).natAbs.log2 ≤ max (x.num * y.den).natAbs.log2 (y.num * x.den).natAbs.log2 + 1 :=
    Nat.le_trans (log2_mono (Int.natAbs_add_le ..)) log2_add_le
  have m4 : (((x.den * y.den : Nat) : Int)).natAbs.log2 ≤ x.den.log2 + y.den.log2 + 1 := by
    rw [Int.natAbs_natCast]
    exact log2_mul_le
  omega
theorem zb_mul (x y : Rat) : zb (x * y) ≤ zb x + zb y := by
  have h := zb_divInt (n := x.num * y.num) (d := ((x.den * y.den : Nat) : Int)) (by
    have := x.den_nz
    have := y.den_nz
    have : x.den * y.den ≠ 0 := Nat.mul_ne_zero (by assumption) (by assumption)
    omega)
  rw [Rat.divInt_ofNat, ← Rat.mul_def'] at h
  have hx1 := zb_num x
  have hx2 := zb_den x
  have hy1 := zb_num y
  have hy2 := zb_den y
  have m1 : (x.num * y.num).natAbs.log2 ≤ x.num.natAbs.log2 + y.num.natAbs.log2 + 1 := by
    rw [Int.natAbs_mul]
    exact log2_mul_le
  have m4 : (((x.den * y.den : Nat) : Int)).natAbs.log2 ≤ x.den.log2 + y.den.log2 + 1 := by
    rw [Int.natAbs_natCast]
    exact log2_mul_le
  omega
theorem zb_neg (x : Rat) : zb (-x) = zb x := by
  unfold zb
  rw [Rat.neg_num, Rat.neg_den, Int.natAbs_neg]
theorem zb_sub (x y : Rat) : zb (x - y) ≤ zb x + zb y := by
  rw [Rat.sub_eq_add_neg, ← zb_neg y]
  exact zb_add x (-y)
def ZM : Nat := 60000000
theorem mulok {i j : Int} (h : i.natAbs.log2 + j.natAbs.log2 < ZM) : MulOk i j := Nat.lt_trans h (by unfold ZM; decide)
section
variable {x y : Rat} {st : List Cell} {Q : Vl → List Cell → Prop}
theorem den_pos (x : Rat) : ((x.den : Nat) : Int) ≠ 0 := by
  have := x.den_nz
  omega
theorem mul_nn (x y : Rat) : ((x.den : Nat) : Int) * ((y.den : Nat) : Int) ≠ 0 := Int.mul_ne_zero (den_pos x) (den_pos y)
theorem mk_nn {i j : Nat} {a b : Int} (ha : a.natAbs.log2 + 2 ≤ i) (hb : b.natAbs.log2 + 2 ≤ j) (h : i + j < ZM) : MulOk a b := mulok (by omega)
theorem dn (x : Rat) : ((x.den : Nat) : Int).natAbs.log2 + 2 ≤ zb x := by
  rw [Int.natAbs_natCast]
  exact zb_den x
theorem add_ok (hz : zb x + zb y < ZM) (h : Q (.d (fr (x + y))) st) : sp_add [.d (fr x), .d (fr y)] st Q := by
  unfold sp_add
  refine ⟨rfl, ?_⟩
  refine ⟨mk_nn (zb_num x) (dn y) hz, mk_nn (zb_num y) (dn x) (by omega), mk_nn (dn x) (dn y) hz, ?_⟩
  refine fraction_ok (mul_nn x y) (tk ?_)
  rw [← Int.natCast_mul, Rat.divInt_ofNat, ← Rat.add_def']
  exact h
theorem negative_ok (h : Q (.d (fr (-x))) st) : sp_negative [.d (fr x)] st Q := by
  unfold sp_negative
  refine ⟨rfl, lineN rfl, tk ?_⟩
  have e : fr (-x) = .tup [.int (-x.num), .int x.den] := by
    unfold fr
    rw [Rat.neg_num, Rat.neg_den]
  rw [e] at h
  exact h
theorem subtract_ok (hz : zb x + zb y < ZM) (h : Q (.d (fr (x - y))) st) : sp_subtract [.d (fr x), .d (fr y)] st Q := by
  unfold sp_subtract
  refine ⟨rfl, ?_⟩
  refine negative_ok ?_
  refine add_ok (by rw [zb_neg]; exact hz) (tk ?_)
  rw [← Rat.sub_eq_add_neg]
  exact h
theorem multiply_ok (hz : zb x + zb y < ZM) (h : Q (.d (fr (x * y))) st) : sp_multiply [.d (fr x), .d (fr y)] st Q := by
  unfold sp_multiply
  refine ⟨rfl, ?_⟩
  refine ⟨mk_nn (zb_num x) (zb_num y) hz, mk_nn (dn x) (dn y) hz, ?_⟩
  refine fraction_ok (mul_nn x y) (tk ?_)
  rw [← Int.natCast_mul, Rat.divInt_ofNat, ← Rat.mul_def']
  exact h
theorem num_nz {y : Rat} (hy : y ≠ 0) : y.num ≠ 0 := fun e => hy (Rat.num_eq_zero.mp e)
theorem divide_ok (hy : y ≠ 0) (hz : zb x + zb y < ZM) (h : Q (.d (fr (x / y))) st) : sp_divide [.d (fr x), .d (fr y)] st Q := by
  unfold sp_divide
  refine ⟨rfl, ?_⟩
  refine ⟨mk_nn (zb_num x) (dn y) hz, mk_nn (dn x) (zb_num y) hz, ?_⟩
  refine fraction_ok (Int.mul_ne_zero (den_pos x) (num_nz hy)) (tk ?_)
  have e : Rat.divInt (x.num * (y.den : Int)) ((x.den : Int) * y.num) = x / y := by
    rw [Rat.div_def]
    have e1 : y⁻¹ = Rat.divInt y.den y.num := by
      have := Rat.inv_divInt y.num y.den
      rw [Rat.num_divInt_den] at this
      exact this
    rw [e1]
    conv => rhs; rw [← Rat.num_divInt_den x]
    rw [Rat.divInt_mul_divInt]
  rw [e]
  exact h
def sgn (x : Rat) : Int := if 0 < x then 1 else if x < 0 then -1 else 0
theorem num_neg_iff (x : Rat) : x.num < 0 ↔ x < 0 := by
  have h := Rat.num_nonneg (q := x)
  rw [← Rat.not_le, ← h]
  omega
theorem num_pos_iff (x : Rat) : 0 < x.num ↔ 0 < x := by
  have h := num_neg_iff (-x)
  rw [Rat.neg_num] at h
  have : (0 < x) ↔ (-x < 0) := by grind
  rw [this, ← h]
  omega
theorem sign_ok (h : Q (.d (.int (sgn x))) st) : sp_sign [.d (fr x)] st Q := by
  unfold sp_sign
  refine ⟨rfl, trivial, ?_⟩
  show if (decide ((0 : Int) < x.num)) = true then _ else _
  unfold sgn at h
  by_cases h1 : 0 < x
  · rw [if_pos (decide_eq_true ((num_pos_iff x).mpr h1))]
    rw [if_pos h1] at h
    exact tk h
  · rw [if_neg (by simp only [decide_eq_true_eq]; exact fun z => h1 ((num_pos_iff x).mp z))]
    rw [if_neg h1] at h
    refine ⟨trivial, ?_⟩
    show if (decide (x.num < 0)) = true then _ else _
    by_cases h2 : x < 0
    · rw [if_pos (decide_eq_true ((num_neg_iff x).mpr h2))]
      rw [if_pos h2] at h
      exact tk h
    · rw [if_neg (by simp only [decide_eq_true_eq]; exact fun z => h2 ((num_neg_iff x).mp z))]
      rw [if_neg h2] at h
      exact tk h
theorem compare_ok (hz : zb x + zb y < ZM) (h : Q (.d (.int (sgn (x - y)))) st) : sp_compare [.d (fr x), .d (fr y)] st Q := by
  unfold sp_compare
  refine ⟨rfl, subtract_ok hz (sign_ok (tk h))⟩
theorem sgn_le (x y : Rat) : sgn (x - y) ≤ 0 ↔ x ≤ y := by
  unfold sgn
  grind
theorem is_at_most_ok (hz : zb x + zb y < ZM) (h : Q (.d (.bl (decide (x ≤ y)))) st) : sp_is_at_most [.d (fr x), .d (fr y)] st Q := by
  unfold sp_is_at_most
  refine ⟨rfl, compare_ok hz ⟨trivial, tk ?_⟩⟩
  have e : decide (sgn (x - y) ≤ 0) = decide (x ≤ y) := decide_eq_decide.mpr (sgn_le x y)
  rw [← e] at h
  exact h
end
end PG

set_option maxRecDepth 100000
set_option maxHeartbeats 4000000
namespace PG
open PySem PySem.Spec PyProof.Rows L2 RT

theorem range_inv {i : Nat} {b : DS} {all : List Dt} {E : DEnds} (I : Nat → Int → M → Prop)
    (hs : ∀ n lo m (K : M → Prop), (∀ m', I n (lo + 1) m' → K m') → I (n + 1) lo m → b ⟨K, E.rt, E.nx, K⟩ ⟨m.sl.set i (some (.d (.int lo))), m.st⟩) (hd : ∀ lo m, I 0 lo m → E.nx m) :
    ∀ (n : Nat) (lo : Int) (m : M), I n lo m → dLoop (.nm i) b all none E (rangeD lo n) m
  | 0, lo, m, h => ⟨trivial, hd lo m h⟩
  | n + 1, lo, m, h => ⟨trivial, hs n lo m _ (fun m' h' => range_inv I hs hd n (lo + 1) m' h') h⟩

def eu : Nat → Nat → Nat → Nat
  | 0, x, _ => x
  | j + 1, x, y => if 0 < y then eu j y (x % y) else eu j x y

theorem atI_int {ns : List Int} {k : Int} (h0 : 0 ≤ k) (h1 : k < ns.length) : atI (ns.map Dt.int) k = some (.int (ns.getD k.toNat 0)) := by
  unfold atI ixN
  rw [if_pos h0, List.length_map, if_pos h1]
  show (ns.map Dt.int)[k.toNat]? = _
  have hk : k.toNat < ns.length := by omega
  rw [List.getElem?_map, List.getD_eq_getElem?_getD, List.getElem?_eq_getElem hk]
  rfl
theorem getD_mem {ns : List Int} {k : Nat} (h : k < ns.length) : ns.getD k 0 ∈ ns := by
  rw [List.getD_eq_getElem?_getD, List.getElem?_eq_getElem h]
  exact List.getElem_mem h
theorem ix_ints {ns : List Int} {k : Int} {P : Dt → Prop} (h0 : 0 ≤ k) (h1 : k < ns.length) (h : P (.int (ns.getD k.toNat 0))) : RT.rIx (.lst (ns.map .int)) (.int k) P := onO_mk (atI_int h0 h1) h
def Bits (ns : List Int) : Prop := ∀ z ∈ ns, Builtin.Int.intBits z ≤ 1048576
theorem cell_ok {ns : List Int} {k : Int} {st : List Cell} {Q : Vl → List Cell → Prop} (hb : Bits ns) (h0 : 0 ≤ k) (h : ∀ v : Int, v.natAbs.log2 ≤ 1048576 → Q (.d (.int v)) st) : sp__law_cell [.d (.lst (ns.map .int)), .d (.int k)] st Q := by
  unfold sp__law_cell
  refine ⟨rfl, trivial, ?_⟩
  show if (decide (k < ((ns.map Dt.int).length : Int))) = true then _ else _
  rw [List.length_map]
  by_cases hk : k < (ns.length : Int)
  · rw [if_pos (decide_eq_true hk)]
    refine ix_ints h0 hk (tk (h _ ?_))
    have := hb _ (getD_mem (ns := ns) (k := k.toNat) (by omega))
    unfold Builtin.Int.intBits at this
    split at this
    · rename_i e
      have e' : ns.getD k.toNat 0 = 0 := by simpa using e
      rw [e']
      simp
    · omega
  · rw [if_neg (by simp; omega)]
    exact tk (h 0 (by simp))
def Dg (ds : List Int) : Prop := ∀ d ∈ ds, 0 ≤ d ∧ d < 1000
theorem Dg.app {ds : List Int} (h : Dg ds) {x : Int} (h0 : 0 ≤ x) (h1 : x < 1000) : Dg (ds ++ [x]) := fun d hd => by
  rcases List.mem_append.mp hd with z | z
  · exact h d z
  · rw [List.mem_singleton] at z
    rw [z]
    exact ⟨h0, h1⟩
theorem fmod_bd (a : Int) {n : Int} (h : 0 < n) : 0 ≤ a.fmod n ∧ a.fmod n < n := ⟨Int.fmod_nonneg_of_pos a h, Int.fmod_lt_of_pos a h⟩
theorem map_app (ds : List Int) (x : Int) : ds.map Dt.int ++ [Dt.int x] = (ds ++ [x]).map Dt.int := by simp

theorem getElem_last {α : Type} (l : List α) (x : α) : (l ++ [x])[l.length]? = some x := by simp
theorem set_last {α : Type} (l : List α) (x y : α) : (l ++ [x]).set l.length y = l ++ [y] := by simp

theorem push_st {st : List Cell} {ds : List Int} {x : Int} : (st ++ [Cell.lst (ds.map Dt.int)]).set st.length (Cell.lst (ds.map Dt.int ++ [Dt.int x])) = st ++ [Cell.lst ((ds ++ [x]).map Dt.int)] := by
  rw [set_last, map_app]
theorem k1000 : (1000 : Int) ≠ 0 := by decide
theorem k997 : (997 : Int) ≠ 0 := by decide
theorem kMx : (2147483647 : Int) ≠ 0 := by decide
theorem small_lt {n : Nat} (h : n < 16777216) : n < sizeLine := by
  rw [sizeLine_eq]
  exact h

theorem seq_mid {a b : DS} {E : DEnds} {m : M} (P : M → Prop) (h1 : ∀ K : M → Prop, (∀ m', P m' → K m') → a ⟨K, E.rt, E.bk, E.ct⟩ m) (h2 : ∀ m', P m' → b E m') : dSeq a b E m := h1 _ h2
theorem log2_small {v : Int} {n : Nat} (h0 : 0 ≤ v) (h : v < 2 ^ n) (hn : 0 < n) : v.natAbs.log2 < n := by
  by_cases hz : v.natAbs = 0
  · rw [hz]
    simpa using hn
  · refine (Nat.log2_lt hz).mpr ?_
    have : ((v.natAbs : Nat) : Int) < ((2 ^ n : Nat) : Int) := by
      rw [Int.natAbs_of_nonneg h0]
      push_cast
      exact h
    exact_mod_cast this
end PG

set_option maxRecDepth 100000
set_option maxHeartbeats 4000000
namespace PG
open PySem PySem.Spec PyProof.Rows L2 RT
theorem onJ_mk {o : Option Nat} {P : Nat → Prop} {j : Nat} (e : o = some j) (h : P j) : onJ o P := by
  subst e
  exact h
theorem onV_d {m : M} {x : Dt} {P : Dt → Prop} (h : P x) : onV m (.d x) P := h
theorem rIx_mk {xs : List Dt} {k : Int} {z : Dt} {P : Dt → Prop} (e : atI xs k = some z) (h : P z) : RT.rIx (.lst xs) (.int k) P := onO_mk e h
def Bx (ds : List Int) (i : Nat) : Cell := .lst [.lst (ds.map .int), .int i]
theorem onV_c {sl : List (Option Vl)} {st : List Cell} {k : Nat} {xs : List Dt} {P : Dt → Prop} (e : st[k]? = some (.lst xs)) (h : P (.lst xs)) : onV ⟨sl, st⟩ (.c k) P := by
  unfold onV view
  simp only [e]
  exact h
theorem zb_small {n d : Int} {b : Nat} (hd : 0 < d) (h1 : n.natAbs < 2 ^ b) (h2 : d.natAbs < 2 ^ b) (hb : 0 < b) : zb (Rat.divInt n d) ≤ b + 2 := by
  have h := zb_divInt (n := n) (d := d) (by omega)
  have l : ∀ z : Nat, z < 2 ^ b → z.log2 ≤ b := fun z hz => by
    by_cases e : z = 0
    · rw [e]
      simp
    · have := (Nat.log2_lt e).mpr hz
      omega
  have := l _ h1
  have := l _ h2
  omega
theorem eqD_int {a b : Int} : eqD (.int a) (.int b) = decide (a = b) := by
  show (a == b) = _
  rw [Bool.eq_iff_iff]
  simp
end PG

set_option maxRecDepth 100000
set_option maxHeartbeats 4000000
namespace PG
open PySem PySem.Spec PyProof.Rows L2 RT
section
variable {x y : Rat} {st : List Cell} {Q : Vl → List Cell → Prop}
end
theorem zm {a b : Nat} (h : a + b < 60000000) : a + b < ZM := h

theorem add_val (x y : Rat) : x + y = Rat.divInt (x.num * y.den + y.num * x.den) (x.den * y.den) := by
  rw [← Int.natCast_mul, Rat.divInt_ofNat, ← Rat.add_def']
theorem guard_st {c : DT} {t b : DS} {E : DEnds} {m : M} (m' : M) (hc : ∀ K : Bool → M → Prop, K false m' → c m K) (h : b E m') : dSeq (dIfS c t dNext) b E m := hc _ h
end PG

set_option maxRecDepth 100000
set_option maxHeartbeats 4000000
namespace PG
open PySem PySem.Spec PyProof.Rows L2 RT

mutual
theorem eqv_self : ∀ x : Dt, PyData.eqv (toPy x) (toPy x) = true
  | .non => by simp [toPy, PyData.eqv]
  | .bl b => by simp [toPy, PyData.eqv]
  | .int i => by simp [toPy, PyData.eqv]
  | .str s => by simp [toPy, PyData.eqv]
  | .tup ds => by
    simp only [toPy, PyData.eqv]
    exact eqvs_self ds
  | .lst ds => by
    simp only [toPy, PyData.eqv]
    exact eqvs_self ds
theorem eqvs_self : ∀ ds : List Dt, PyData.eqvAll (toPys ds) (toPys ds) = true
  | [] => by simp [toPys, PyData.eqvAll]
  | d :: ds => by
    simp only [toPys, PyData.eqvAll, eqv_self d, eqvs_self ds, Bool.and_self]
end
theorem eqD_self (x : Dt) : eqD x x = true := eqv_self x

mutual
def nb : Dt → Bool
  | .bl _ => false
  | .tup ds => nbs ds
  | .lst ds => nbs ds
  | .non => true
  | .int _ => true
  | .str _ => true
def nbs : List Dt → Bool
  | [] => true
  | d :: ds => nb d && nbs ds
end
mutual
theorem eqv_eq : ∀ x y : Dt, nb x = true → nb y = true → PyData.eqv (toPy x) (toPy y) = true → x = y
  | .bl _, _, h, _, _ => by simp [nb] at h
  | _, .bl _, _, h, _ => by simp [nb] at h
  | .non, .non, _, _, _ => rfl
  | .int i, .int j, _, _, h => by
    simp [toPy, PyData.eqv] at h
    rw [h]
  | .str i, .str j, _, _, h => by
    simp [toPy, PyData.eqv] at h
    rw [h]
  | .tup xs, .tup ys, h1, h2, h => by
    simp only [nb] at h1 h2
    simp only [toPy, PyData.eqv] at h
    rw [eqvs_eq xs ys h1 h2 h]
  | .lst xs, .lst ys, h1, h2, h => by
    simp only [nb] at h1 h2
    simp only [toPy, PyData.eqv] at h
    rw [eqvs_eq xs ys h1 h2 h]
  | .non, .int _, _, _, h | .non, .str _, _, _, h | .non, .tup _, _, _, h | .non, .lst _, _, _, h => by simp [toPy, PyData.eqv] at h
  | .int _, .non, _, _, h | .int _, .str _, _, _, h | .int _, .tup _, _, _, h | .int _, .lst _, _, _, h => by simp [toPy, PyData.eqv] at h
  | .str _, .non, _, _, h | .str _, .int _, _, _, h | .str _, .tup _, _, _, h | .str _, .lst _, _, _, h => by simp [toPy, PyData.eqv] at h
  | .tup _, .non, _, _, h | .tup _, .int _, _, _, h | .tup _, .str _, _, _, h | .tup _, .lst _, _, _, h => by simp [toPy, PyData.eqv] at h
  | .lst _, .non, _, _, h | .lst _, .int _, _, _, h | .lst _, .str _, _, _, h | .lst _, .tup _, _, _, h => by simp [toPy, PyData.eqv] at h
theorem eqvs_eq : ∀ xs ys : List Dt, nbs xs = true → nbs ys = true → PyData.eqvAll (toPys xs) (toPys ys) = true → xs = ys
  | [], [], _, _, _ => rfl
  | [], _ :: _, _, _, h => by simp [toPys, PyData.eqvAll] at h
  | _ :: _, [], _, _, h => by simp [toPys, PyData.eqvAll] at h
  | x :: xs, y :: ys, h1, h2, h => by
    simp only [nbs, Bool.and_eq_true] at h1 h2
    simp only [toPys, PyData.eqvAll, Bool.and_eq_true] at h
    rw [eqv_eq x y h1.1 h2.1 h.1, eqvs_eq xs ys h1.2 h2.2 h.2]
end

def Sh (n : Nat) (d : Dt) : Prop := (toPy d).canLay0 = true ∧ (toPy d).depth ≤ n
theorem sh_ok {n : Nat} {d : Dt} (h : Sh n d) (hn : Nat.ble n 64 = true := by rfl) : shD d := by
  unfold shD SeqAt.shaped
  rw [h.1, decide_eq_true (Nat.le_trans h.2 (Nat.le_of_ble_eq_true hn))]
  rfl
theorem depths : ∀ {n : Nat} {ds : List Dt}, (∀ d ∈ ds, (toPy d).depth ≤ n) → PyData.depthAll (toPys ds) ≤ n
  | n, [], _ => by simp [toPys, PyData.depthAll]
  | n, d :: ds, h => by
    have h1 := h d List.mem_cons_self
    have h2 := depths (n := n) (ds := ds) fun x hx => h x (List.mem_cons_of_mem _ hx)
    simp only [toPys, PyData.depthAll]
    omega
theorem sh_int {i : Int} {n : Nat} : Sh n (.int i) := ⟨rfl, Nat.zero_le _⟩
theorem sh_str {s : Str} {n : Nat} (h : PyData.canLay0 (.str s) = true) : Sh n (.str s) := ⟨by simp only [toPy]; exact h, by simp [toPy, PyData.depth]⟩
theorem all_nil {P : Dt → Prop} : ∀ d ∈ ([] : List Dt), P d := fun _ h => nomatch h
theorem all_cons {P : Dt → Prop} {x : Dt} {r : List Dt} (h1 : P x) (h2 : ∀ d ∈ r, P d) : ∀ d ∈ x :: r, P d := fun d hd => by
  rcases List.mem_cons.mp hd with e | e
  · rw [e]
    exact h1
  · exact h2 d e
theorem all_map {α : Type} {P : Dt → Prop} {f : α → Dt} {l : List α} (h : ∀ a ∈ l, P (f a)) : ∀ d ∈ l.map f, P d := fun d hd => by
  obtain ⟨a, ha, rfl⟩ := List.mem_map.mp hd
  exact h a ha
def ofr : Option Rat → Dt
  | none => .non
  | some q => fr q

section
variable {x y : Rat} {st : List Cell} {Q : Vl → List Cell → Prop}
end
section
variable {ds : List Int} {i k : Nat} {st : List Cell} {Q : Vl → List Cell → Prop}
end
end PG

set_option maxRecDepth 100000
set_option maxHeartbeats 4000000
namespace PG
open PySem PySem.Spec PyProof.Rows L2 RT
theorem each_inv {i : Nat} {b : DS} {all : List Dt} {lk : Option Nat} {E : DEnds} {α : Type} (f : α → Dt) (I : List α → M → Prop) (hlk : ∀ r m, I r m → lockOk lk all m)
    (hs : ∀ x r m (K : M → Prop), (∀ m', I r m' → K m') → I (x :: r) m → b ⟨K, E.rt, E.nx, K⟩ ⟨m.sl.set i (some (.d (f x))), m.st⟩) (hd : ∀ m, I [] m → E.nx m) :
    ∀ (xs : List α) (m : M), I xs m → dLoop (.nm i) b all lk E (xs.map f) m
  | [], m, h => ⟨hlk _ m h, hd m h⟩
  | x :: r, m, h => ⟨hlk _ m h, hs x r m _ (fun m' h' => each_inv f I hlk hs hd r m' h') h⟩

section
variable {st : List Cell} {Q : Vl → List Cell → Prop}
end
end PG

set_option maxRecDepth 100000
set_option maxHeartbeats 4000000
namespace PG
open PySem PySem.Spec PyProof.Rows L2 RT

def In (D B : Nat) (q : Rat) : Prop := ∃ n : Int, q * (D : Rat) = (n : Rat) ∧ n.natAbs ≤ B * D
theorem in_add {D B C : Nat} {x y : Rat} : In D B x → In D C y → In D (B + C) (x + y) := fun ⟨n, h1, h2⟩ ⟨m, h3, h4⟩ => ⟨n + m, by rw [Rat.add_mul, h1, h3, ← Rat.intCast_add], by
  rw [Nat.add_mul]
  have := Int.natAbs_add_le n m
  omega⟩
theorem in_le {D B C : Nat} {x : Rat} (h : B ≤ C) : In D B x → In D C x := fun ⟨n, h1, h2⟩ => ⟨n, h1, Nat.le_trans h2 (Nat.mul_le_mul_right _ h)⟩
theorem in_val {D B : Nat} {x : Rat} (hD : 0 < D) : In D B x → ∃ n : Int, x = Rat.divInt n D ∧ n.natAbs ≤ B * D := fun ⟨n, h1, h2⟩ => ⟨n, by
  rw [Rat.divInt_eq_div]
  have : (D : Rat) ≠ 0 := by
    have : D ≠ 0 := by omega
    simpa using this
  simp only [Rat.intCast_natCast]
  rw [← h1]
  grind, h2⟩
theorem in_zb {D B b : Nat} {x : Rat} (hD : 0 < D) (h : In D B x) (h1 : B * D < 2 ^ b) (h2 : D < 2 ^ b) (hb : 0 < b) : zb x ≤ b + 2 := by
  obtain ⟨n, e, hn⟩ := in_val hD h
  rw [e]
  exact zb_small (by omega) (by omega) (by omega) hb
theorem in_div {D B : Nat} {n : Int} {d : Nat} (hd : 0 < d) (hD : ∃ k, D = d * k) (h : n.natAbs ≤ B * d) : In D B (Rat.divInt n d) := by
  obtain ⟨k, rfl⟩ := hD
  refine ⟨n * k, ?_, ?_⟩
  · rw [Rat.divInt_eq_div, Rat.natCast_mul, Rat.intCast_mul]
    simp only [Rat.intCast_natCast]
    have : (d : Rat) ≠ 0 := by
      have : d ≠ 0 := by omega
      simpa using this
    grind
  · rw [Int.natAbs_mul, Int.natAbs_natCast, ← Nat.mul_assoc]
    exact Nat.mul_le_mul_right _ h
end PG

set_option maxRecDepth 100000
set_option maxHeartbeats 4000000
namespace PG
open PySem PySem.Spec PyProof.Rows L2 RT
theorem ifs_t {c : DT} {t u : DS} {E : DEnds} {m : M} (m' : M) (hc : ∀ K : Bool → M → Prop, K true m' → c m K) (h : t E m') : dIfS c t u E m := hc _ (by rw [if_pos rfl]; exact h)
end PG

set_option maxRecDepth 100000
set_option maxHeartbeats 4000000
namespace PG
open PySem PySem.Spec PyProof.Rows L2 RT
def Pn (q : Rat) : Prop := ∃ (a : Int) (z : Nat), q = Rat.divInt a z ∧ a.natAbs ≤ 6 ∧ 0 < z ∧ z ≤ 4
theorem dvd12 {z : Nat} (h : 0 < z) (h4 : z ≤ 4) : ∃ k, 12 = z * k := by
  have : z = 1 ∨ z = 2 ∨ z = 3 ∨ z = 4 := by omega
  rcases this with rfl | rfl | rfl | rfl
  · exact ⟨12, rfl⟩
  · exact ⟨6, rfl⟩
  · exact ⟨4, rfl⟩
  · exact ⟨3, rfl⟩
theorem Pn.in_ {q : Rat} : Pn q → In 12 6 q := fun ⟨a, z, e, h1, h2, h3⟩ => by
  rw [e]
  exact in_div h2 (dvd12 h2 h3) (Nat.le_trans h1 (Nat.le_mul_of_pos_right _ h2))
theorem Pn.zb {q : Rat} (h : Pn q) : zb q ≤ 9 := in_zb (b := 7) (by decide) h.in_ (by decide) (by decide) (by decide)
theorem inv_divInt (a z : Int) : (Rat.divInt a z)⁻¹ = Rat.divInt z a := Rat.inv_divInt a z
section
variable {ds : List Int} {i k : Nat} {st : List Cell} {Q : Vl → List Cell → Prop}
theorem pn_half : Pn (Rat.divInt 1 2) := ⟨1, 2, rfl, by decide, by decide, by decide⟩
end

inductive El where
  | gap (g : Rat) | lens (p c : Rat) | prism (d : Rat) | afocal (m : Rat) | stop (lo hi : Option Rat)
def elD : El → Dt
  | .gap g => .tup [.str ("gap" : Str), fr g]
  | .lens p c => .tup [.str ("lens" : Str), fr p, fr c]
  | .prism d => .tup [.str ("prism" : Str), fr d]
  | .afocal m => .tup [.str ("afocal" : Str), fr m]
  | .stop lo hi => .tup [.str ("stop" : Str), ofr lo, ofr hi]
def ElIn : El → Prop
  | .gap g => Pn g
  | .lens p c => Pn p ∧ Pn c
  | .prism d => Pn d
  | .afocal m => Pn m ∧ m ≠ 0
  | .stop lo hi => (∀ q, lo = some q → In 12 12 q) ∧ ∀ q, hi = some q → In 12 12 q
theorem pn_zero : Pn 0 := ⟨0, 1, by decide, by decide, by decide, by decide⟩
section
variable {ds : List Int} {i k : Nat} {st : List Cell} {Q : Vl → List Cell → Prop}
theorem idx2 {x y : Rat} (hx : Pn x) (hy : Pn y) (r : Int) (h0 : 0 ≤ r) (h1 : r < 2) : ∃ z : Rat, atI [fr x, fr y] r = some (fr z) ∧ Pn z := by
  have : r = 0 ∨ r = 1 := by omega
  rcases this with rfl | rfl
  · exact ⟨x, rfl, hx⟩
  · exact ⟨y, rfl, hy⟩
end
end PG

set_option maxRecDepth 100000
set_option maxHeartbeats 4000000
namespace PG
open PySem PySem.Spec PyProof.Rows L2 RT
theorem lc_inv {α : Type} (f : α → Dt) {sl slw : List (Option Vl)} {i : Nat} {te : DE} {all : List Dt} {lk : Option Nat} {K : List Dt → M → Prop} (I : List Dt → List α → List Cell → Prop)
    (hlk : ∀ r acc st, I r acc st → lockOk lk all ⟨sl, st⟩)
    (hlen : ∀ x r acc st, I (x :: r) acc st → acc.length < sizeLine)
    (hs : ∀ x r acc st (P : Vl → M → Prop), I (x :: r) acc st → (∀ a m', I r (acc ++ [a]) m'.st → P (.d (f a)) m') → te ⟨slw.set i (some (.d x)), st⟩ P)
    (hd : ∀ acc st, I [] acc st → K (acc.map f) ⟨sl, st⟩) : ∀ (xs : List Dt) (acc : List α) (st : List Cell), I xs acc st → dLcGo sl slw (.nm i) dYes te all lk K xs (acc.map f) st
  | [], acc, st, h => ⟨hlk _ _ _ h, hd acc st h⟩
  | x :: r, acc, st, h => ⟨hlk _ _ _ h, by
    show te ⟨slw.set i (some (.d x)), st⟩ _
    refine hs x r acc st _ h fun a m' h' => ?_
    refine ⟨by rw [List.length_map]; exact hlen x r acc st h, ?_⟩
    have := lc_inv f I hlk hlen hs hd r (acc ++ [a]) m'.st h'
    rw [List.map_append] at this
    exact this⟩
section
variable {ds : List Int} {i k : Nat} {st : List Cell} {Q : Vl → List Cell → Prop}
end

abbrev Ray := Rat × Rat
def rayD (r : Ray) : Dt := .tup [fr r.1, fr r.2]
def behind : El → Ray → Ray
  | .gap g, r => (r.1 + g * r.2, r.2)
  | .lens p c, r => (r.1, r.2 - p * (r.1 - c))
  | .prism d, r => (r.1, r.2 + d)
  | .afocal m, r => (m * r.1, r.2 * m⁻¹)
  | .stop _ _, r => r
def blo : Option Rat → Rat → Bool
  | some l, h => decide (h < l)
  | none, _ => false
def bhi : Option Rat → Rat → Bool
  | some u, h => decide (u < h)
  | none, _ => false
def blocks : El → Ray → Bool
  | .stop lo hi, r => blo lo r.1 || bhi hi r.1
  | _, _ => false
def Rb (j : Nat) (r : Ray) : Prop := In (12 * 60 ^ j) (6 * 13 ^ j) r.1 ∧ In (12 * 60 ^ j) (6 * 13 ^ j) r.2
theorem eqS (a b : Str) : eqD (.str a) (.str b) = decide (a = b) := by
  show (a == b) = _
  rw [Bool.eq_iff_iff]
  simp
theorem shS {s : Str} (h : PyData.canLay0 (.str s) = true) : shD (.str s) := sh_ok (n := 0) (sh_str h)
theorem s_gap : shD (.str ("gap" : Str)) := shS (by decide +kernel)
theorem s_lens : shD (.str ("lens" : Str)) := shS (by decide +kernel)
theorem s_prism : shD (.str ("prism" : Str)) := shS (by decide +kernel)
theorem s_afocal : shD (.str ("afocal" : Str)) := shS (by decide +kernel)
theorem s_stop : shD (.str ("stop" : Str)) := shS (by decide +kernel)
def tag : El → Str
  | .gap _ => "gap" | .lens _ _ => "lens" | .prism _ => "prism" | .afocal _ => "afocal" | .stop _ _ => "stop"
theorem str_ne {a b : Str} {A B : Prop} (h : decide (a = b) = false) (hB : B) : if eqD (.str a) (.str b) = true then A else B := by
  rw [eqS, h]
  exact hB
theorem str_eq {a : Str} {A B : Prop} (hA : A) : if eqD (.str a) (.str a) = true then A else B := by
  rw [eqD_self]
  exact hA
theorem ne_lg : decide (("lens" : Str) = "gap") = false := by decide +kernel
theorem ne_pg : decide (("prism" : Str) = "gap") = false := by decide +kernel
theorem ne_ag : decide (("afocal" : Str) = "gap") = false := by decide +kernel
theorem ne_sg : decide (("stop" : Str) = "gap") = false := by decide +kernel
theorem ne_pl : decide (("prism" : Str) = "lens") = false := by decide +kernel
theorem ne_al : decide (("afocal" : Str) = "lens") = false := by decide +kernel
theorem ne_sl : decide (("stop" : Str) = "lens") = false := by decide +kernel
theorem ne_ap : decide (("afocal" : Str) = "prism") = false := by decide +kernel
theorem ne_sp : decide (("stop" : Str) = "prism") = false := by decide +kernel
theorem ne_sa : decide (("stop" : Str) = "afocal") = false := by decide +kernel
section
variable {st : List Cell} {Q : Vl → List Cell → Prop}
def Zo (n : Nat) (o : Option Rat) : Prop := ∀ q, o = some q → zb q ≤ n
theorem ElIn.zo {lo hi : Option Rat} (h : ElIn (.stop lo hi)) : Zo 10 lo ∧ Zo 10 hi := ⟨fun q e => in_zb (b := 8) (by decide) (h.1 q e) (by decide) (by decide) (by decide), fun q e => in_zb (b := 8) (by decide) (h.2 q e) (by decide) (by decide) (by decide)⟩
def ElZ (n : Nat) : El → Prop
  | .gap g => zb g ≤ n
  | .lens p c => zb p ≤ n ∧ zb c ≤ n
  | .prism d => zb d ≤ n
  | .afocal m => zb m ≤ n ∧ m ≠ 0
  | .stop lo hi => Zo n lo ∧ Zo n hi
theorem ElIn.z {e : El} (h : ElIn e) : ElZ 10 e := by
  cases e with
  | gap g => exact Nat.le_trans (Pn.zb h) (by decide)
  | lens p c => exact ⟨Nat.le_trans (Pn.zb h.1) (by decide), Nat.le_trans (Pn.zb h.2) (by decide)⟩
  | prism d => exact Nat.le_trans (Pn.zb h) (by decide)
  | afocal m => exact ⟨Nat.le_trans (Pn.zb h.1) (by decide), h.2⟩
  | stop lo hi => exact ElIn.zo h
theorem passes_ok {lo hi : Option Rat} {q : Rat} {n : Nat} (h1 : Zo n lo) (h2 : Zo n hi) (hn : n + zb q < 1000000) (h : Q (.d (.bl (!(blo lo q || bhi hi q)))) st) : sp_passes_stop [.d (elD (.stop lo hi)), .d (fr q)] st Q := by
  unfold sp_passes_stop
  refine ⟨rfl, ?_⟩
  have two : blo lo q = false → dRet (dOrV (dIsN (dOp RT.rIx (dVar 0) (dC (.int 2)))) (dCall PG.sp_is_at_most [] (dCons (dVar 1) (dCons (dOp RT.rIx (dVar 0) (dC (.int 2))) dNil)))) (endsOf false st.length Q) ⟨[some (.d (elD (.stop lo hi))), some (.d (fr q))], st⟩ := fun hb => by
    rw [hb, Bool.false_or] at h
    cases hi with
    | none => exact tk h
    | some u =>
      have := h2 u rfl
      refine is_at_most_ok (x := q) (y := u) (zm (by omega)) (tk ?_)
      have e : (!bhi (some u) q) = decide (q ≤ u) := by
        show (!decide (u < q)) = decide (q ≤ u)
        rw [← decide_not]
        exact decide_eq_decide.mpr Rat.not_lt
      rw [← e]
      exact h
  cases lo with
  | none => exact two rfl
  | some l =>
    have := h1 l rfl
    refine is_at_most_ok (x := l) (y := q) (zm (by omega)) ?_
    show if (!decide (l ≤ q)) = true then _ else _
    by_cases c : l ≤ q
    · rw [decide_eq_true c]
      exact two (by unfold blo; simp [Rat.not_lt, c])
    · rw [decide_eq_false c]
      have e : (!(blo (some l) q || bhi hi q)) = false := by
        unfold blo
        simp [Rat.not_le.mp c]
      rw [e] at h
      exact tk h
def thru (e : El) (r : Ray) : Option Ray := if blocks e r = true then none else some (behind e r)
def oray : Option Ray → Dt
  | none => .non
  | some r => rayD r
theorem gone_ok {e : El} {r : Ray} {n : Nat} (he : ElZ n e) (h1 : zb r.1 ≤ n) (h2 : zb r.2 ≤ n) (hn : n ≤ 400000) (h : Q (.d (oray (thru e r))) st) : sp_gone_through [.d (elD e), .d (rayD r)] st Q := by
  unfold sp_gone_through
  cases e with
  | gap g =>
    have zg : zb g ≤ n := he
    have m1 := zb_mul g r.2
    refine ⟨rfl, rfl, s_gap, s_gap, str_eq ?_⟩
    refine multiply_ok (zm (by omega)) ?_
    refine add_ok (zm (by omega)) ?_
    exact ⟨lineN rfl, tk h⟩
  | lens p c =>
    have zp := he.1
    have zc := he.2
    refine ⟨rfl, rfl, s_lens, s_gap, str_ne ne_lg ?_⟩
    refine ⟨s_lens, s_lens, str_eq ?_⟩
    have m1 := zb_sub r.1 c
    refine subtract_ok (zm (by omega)) ?_
    have m2 := zb_mul p (r.1 - c)
    refine multiply_ok (zm (by omega)) ?_
    refine subtract_ok (zm (by omega)) ?_
    exact ⟨lineN rfl, tk h⟩
  | prism d =>
    have zg : zb d ≤ n := he
    refine ⟨rfl, rfl, s_prism, s_gap, str_ne ne_pg ?_⟩
    refine ⟨s_prism, s_lens, str_ne ne_pl ?_⟩
    refine ⟨s_prism, s_prism, str_eq ?_⟩
    refine add_ok (zm (by omega)) ?_
    exact ⟨lineN rfl, tk h⟩
  | afocal m =>
    have zg := he.1
    refine ⟨rfl, rfl, s_afocal, s_gap, str_ne ne_ag ?_⟩
    refine ⟨s_afocal, s_lens, str_ne ne_al ?_⟩
    refine ⟨s_afocal, s_prism, str_ne ne_ap ?_⟩
    refine ⟨s_afocal, s_afocal, str_eq ?_⟩
    refine multiply_ok (zm (by omega)) ?_
    refine divide_ok he.2 (zm (by omega)) ?_
    rw [Rat.div_def]
    exact ⟨lineN rfl, tk h⟩
  | stop lo hi =>
    refine ⟨rfl, rfl, s_stop, s_gap, str_ne ne_sg ?_⟩
    refine ⟨s_stop, s_lens, str_ne ne_sl ?_⟩
    refine ⟨s_stop, s_prism, str_ne ne_sp ?_⟩
    refine ⟨s_stop, s_afocal, str_ne ne_sa ?_⟩
    refine passes_ok he.1 he.2 (by omega) ?_
    show if (!(blo lo r.1 || bhi hi r.1)) = true then _ else _
    unfold thru blocks at h
    cases c : (blo lo r.1 || bhi hi r.1) with
    | true =>
      simp only [c] at h
      exact tk h
    | false =>
      simp only [c] at h
      exact tk h
end
end PG

set_option maxRecDepth 100000
set_option maxHeartbeats 4000000
namespace PG
open PySem PySem.Spec PyProof.Rows L2 RT
theorem atI_last (xs : List Dt) (x : Dt) : atI (xs ++ [x]) (-1) = some x := by
  unfold atI ixN
  rw [if_neg (by decide), if_pos (by rw [List.length_append, List.length_singleton]; omega)]
  show (xs ++ [x])[((-1 : Int) + ((xs ++ [x]).length : Int)).toNat]? = some x
  have e : ((-1 : Int) + ((xs ++ [x]).length : Int)).toNat = xs.length := by
    rw [List.length_append, List.length_singleton]
    omega
  rw [e]
  exact getElem_last _ _
theorem atI_map {α : Type} {f : α → Dt} {xs : List α} {k : Nat} {x : α} (h : xs[k]? = some x) : atI (xs.map f) (k : Int) = some (f x) := by
  have hk : k < xs.length := (List.getElem?_eq_some_iff.mp h).1
  unfold atI ixN
  rw [if_pos (by omega), List.length_map, if_pos (by omega)]
  show (xs.map f)[((k : Int)).toNat]? = _
  rw [Int.toNat_natCast, List.getElem?_map, h]
  rfl

structure Gr (n : Nat) (es : List El) (r0 : Ray) (R : Nat → Ray → Prop) : Prop where
  st : R 0 r0
  step : ∀ j e r, j < es.length → e ∈ es → R j r → R (j + 1) (behind e r)
  z : ∀ j r, j ≤ es.length → R j r → zb r.1 ≤ n ∧ zb r.2 ≤ n
section
variable {st : List Cell} {Q : Vl → List Cell → Prop} {es : List El} {r0 : Ray} {R : Nat → Ray → Prop} {n : Nat}
end
end PG

set_option maxRecDepth 100000
set_option maxHeartbeats 4000000
namespace PG
open PySem PySem.Spec PyProof.Rows L2 RT
end PG

set_option maxRecDepth 100000
set_option maxHeartbeats 4000000
namespace PG
open PySem PySem.Spec PyProof.Rows L2 RT

structure Mp where
  a : Rat
  b : Rat
  c : Rat
  d : Rat
  e : Rat
  f : Rat
def idM : Mp := ⟨1, 0, 0, 1, 0, 0⟩
def appM (m : Mp) (r : Ray) : Ray := (m.a * r.1 + m.b * r.2 + m.e, m.c * r.1 + m.d * r.2 + m.f)
def comp (x y : Mp) : Mp := ⟨y.a * x.a + y.b * x.c, y.a * x.b + y.b * x.d, y.c * x.a + y.d * x.c, y.c * x.b + y.d * x.d, y.a * x.e + y.b * x.f + y.e, y.c * x.e + y.d * x.f + y.f⟩
def elM : El → Mp
  | .gap g => ⟨1, g, 0, 1, 0, 0⟩
  | .lens p c => ⟨1, 0, -p, 1, 0, p * c⟩
  | .prism d => ⟨1, 0, 0, 1, 0, d⟩
  | .afocal m => ⟨m, 0, 0, 1 / m, 0, 0⟩
  | .stop _ _ => idM
def det (m : Mp) : Rat := m.a * m.d - m.b * m.c
def transfer (es : List El) : Mp := es.foldl (fun m e => comp m (elM e)) idM
theorem Mp.ext {x y : Mp} (h1 : x.a = y.a) (h2 : x.b = y.b) (h3 : x.c = y.c) (h4 : x.d = y.d) (h5 : x.e = y.e) (h6 : x.f = y.f) : x = y := by
  cases x
  cases y
  simp_all
theorem comp_id (m : Mp) : comp idM m = m := by
  refine Mp.ext ?_ ?_ ?_ ?_ ?_ ?_ <;> simp [comp, idM] <;> grind
theorem id_comp (m : Mp) : comp m idM = m := by
  refine Mp.ext ?_ ?_ ?_ ?_ ?_ ?_ <;> simp [comp, idM] <;> grind
theorem comp_assoc (x y z : Mp) : comp (comp x y) z = comp x (comp y z) := by
  refine Mp.ext ?_ ?_ ?_ ?_ ?_ ?_ <;> simp only [comp] <;> grind
theorem det_comp (x y : Mp) : det (comp x y) = det x * det y := by
  simp only [det, comp]
  grind
def ElOk : El → Prop
  | .afocal m => m ≠ 0
  | _ => True
theorem ElIn.ok {e : El} (h : ElIn e) : ElOk e := by
  cases e <;> first | trivial | exact h.2
theorem det_el {e : El} (h : ElOk e) : det (elM e) = 1 := by
  cases e with
  | afocal m =>
    have h : m ≠ 0 := h
    simp only [det, elM]
    grind
  | _ => simp only [det, elM, idM] <;> grind
theorem fold_comp : ∀ (es : List El) (m : Mp), es.foldl (fun m e => comp m (elM e)) m = comp m (transfer es)
  | [], m => by rw [transfer]; simp only [List.foldl_nil]; rw [id_comp]
  | e :: es, m => by
    rw [transfer, List.foldl_cons, List.foldl_cons, fold_comp es, fold_comp es, comp_id, comp_assoc]
theorem transfer_cons (e : El) (es : List El) : transfer (e :: es) = comp (elM e) (transfer es) := by
  rw [transfer, List.foldl_cons, fold_comp, comp_id]
theorem det_transfer : ∀ {es : List El}, (∀ e ∈ es, ElOk e) → det (transfer es) = 1
  | [], _ => by
    show det idM = 1
    simp only [det, idM]
    grind
  | e :: es, h => by
    rw [transfer_cons, det_comp, det_el (h e List.mem_cons_self), det_transfer fun x hx => h x (List.mem_cons_of_mem _ hx)]
    grind

def MZ (n : Nat) (m : Mp) : Prop := (zb m.a ≤ n ∧ zb m.b ≤ n ∧ zb m.c ≤ n) ∧ zb m.d ≤ n ∧ zb m.e ≤ n ∧ zb m.f ≤ n
def MRb (j : Nat) (m : Mp) : Prop := Rb j (m.a, m.c) ∧ Rb j (m.b, m.d) ∧ Rb j (m.e, m.f)
theorem rb_zb2 {j : Nat} {r : Ray} (hr : Rb j r) : zb r.1 ≤ 9 + 10 * j ∧ zb r.2 ≤ 9 + 10 * j := by
  have p : 780 ^ j ≤ 2 ^ (10 * j) := by
    rw [Nat.pow_mul]
    exact Nat.pow_le_pow_left (by decide) j
  have p60 : 60 ^ j ≤ 2 ^ (10 * j) := by
    rw [Nat.pow_mul]
    exact Nat.pow_le_pow_left (by decide) j
  have e : 6 * 13 ^ j * (12 * 60 ^ j) = 72 * 780 ^ j := by
    rw [show (780 : Nat) = 13 * 60 from rfl, Nat.mul_pow, Nat.mul_mul_mul_comm]
  have e2 : 2 ^ (7 + 10 * j) = 128 * 2 ^ (10 * j) := by rw [Nat.pow_add]
  have e3 : 0 < 2 ^ (10 * j) := Nat.pow_pos (by decide)
  have a : 6 * 13 ^ j * (12 * 60 ^ j) < 2 ^ (7 + 10 * j) := by
    rw [e, e2]
    omega
  have b : 12 * 60 ^ j < 2 ^ (7 + 10 * j) := by
    rw [e2]
    omega
  have c : 0 < 12 * 60 ^ j := Nat.mul_pos (by decide) (Nat.pow_pos (by decide))
  have h1 := in_zb (b := 7 + 10 * j) c hr.1 a b (by omega)
  have h2 := in_zb (b := 7 + 10 * j) c hr.2 a b (by omega)
  exact ⟨by omega, by omega⟩
theorem MRb.z {j : Nat} {m : Mp} (h : MRb j m) : MZ (9 + 10 * j) m := by
  obtain ⟨h1, h2, h3⟩ := h
  have a1 := rb_zb2 h1
  have a2 := rb_zb2 h2
  have a3 := rb_zb2 h3
  exact ⟨⟨a1.1, a2.1, a1.2⟩, a2.2, a3.1, a3.2⟩
end PG

set_option maxRecDepth 100000
set_option maxHeartbeats 4000000
namespace PG
open PySem PySem.Spec PyProof.Rows L2 RT
section
variable {st : List Cell} {Q : Vl → List Cell → Prop}
theorem seq_to {a b : DS} {E : DEnds} {m : M} (m' : M) (h1 : ∀ K : M → Prop, K m' → a ⟨K, E.rt, E.bk, E.ct⟩ m) (h2 : b E m') : dSeq a b E m := h1 _ h2
theorem z4 {n : Nat} {a b c d : Rat} (q1 : zb a ≤ n) (q2 : zb b ≤ n) (q3 : zb c ≤ n) (q4 : zb d ≤ n) : zb (a * b + c * d) ≤ 4 * n := by
  have h1 := zb_mul a b
  have h2 := zb_mul c d
  have h3 := zb_add (a * b) (c * d)
  omega
theorem z2 {n : Nat} {a b c d : Rat} (q1 : zb a ≤ n) (q2 : zb b ≤ n) (q3 : zb c ≤ n) (q4 : zb d ≤ n) (hn : n ≤ 1000000) : zb a + zb b + (zb c + zb d) < ZM := zm (by omega)
theorem MZ.le {a b : Nat} {m : Mp} (h : MZ a m) (hab : a ≤ b) : MZ b m := by
  unfold MZ at *
  omega
theorem el_z {e : El} (he : ElIn e) {n : Nat} (hn : 10 ≤ n) : ElZ n e := by
  have := he.z
  revert this
  cases e <;> unfold ElZ Zo <;> grind
end
end PG

set_option maxRecDepth 100000
set_option maxHeartbeats 4000000
namespace PG
open PySem PySem.Spec PyProof.Rows L2 RT
section
variable {x y : Rat} {st : List Cell} {Q : Vl → List Cell → Prop}
end
end PG

set_option maxRecDepth 100000
set_option maxHeartbeats 4000000
namespace PG
open PySem PySem.Spec PyProof.Rows L2 RT
def Dn (D : Nat) (q : Rat) : Prop := ∃ n : Int, q * (D : Rat) = (n : Rat)
theorem In.dn {D B : Nat} {q : Rat} : In D B q → Dn D q := fun ⟨n, h, _⟩ => ⟨n, h⟩
section
variable {st : List Cell} {Q : Vl → List Cell → Prop}
end
end PG

set_option maxRecDepth 100000
set_option maxHeartbeats 4000000
namespace PG
open PySem PySem.Spec PyProof.Rows L2 RT
def s3 : Rat := Rat.divInt (-2) 3
structure Dist (A : Mp) (q : Rat) : Prop where
  z : zb q ≤ 300
  den : q.den ≤ 2 ^ 90
  good : A.c * q + A.d = 0 ∨ Pn q
section
variable {A : Mp} {q h0 s : Rat}
theorem mul_lt {a b c d n : Nat} (h1 : a ≤ c) (h2 : b ≤ d) (h : c * d < n) : a * b < n := Nat.lt_of_le_of_lt (Nat.mul_le_mul h1 h2) h
end
end PG

set_option maxRecDepth 100000
set_option maxHeartbeats 4000000
namespace PG
open PySem PySem.Spec PyProof.Rows L2 RT
end PG

set_option maxRecDepth 100000
set_option maxHeartbeats 4000000
namespace PG
open PySem PySem.Spec PyProof.Rows L2 RT
section
variable {x y : Rat} {st : List Cell} {Q : Vl → List Cell → Prop}
theorem lfrac_ok {n d : Int} (hd : d ≠ 0) (h : Q (.d (fr (Rat.divInt n d))) st) : sp__law_frac [.d (.int n), .d (.int d)] st Q := by
  unfold sp__law_frac
  have hg : (Int.gcd n d : Int) ≠ 0 := by
    have : Int.gcd n d ≠ 0 := fun e => hd (Int.gcd_eq_zero_iff.mp e).2
    omega
  have hn : (Int.gcd n d : Int) ∣ n := Int.gcd_dvd_left ..
  have hd' : (Int.gcd n d : Int) ∣ d := Int.gcd_dvd_right ..
  have e1 : (Rat.divInt n d).num = d.sign * n / Int.gcd n d := by rw [Rat.num_divInt, Int.gcd_comm]
  have e2 : (((Rat.divInt n d).den : Nat) : Int) = d.sign * d / Int.gcd n d := by
    rw [Rat.den_divInt, if_neg hd, Int.natCast_ediv, Int.gcd_comm, sign_self]
  have fin : ∀ s : Int, (s = 1 ∨ s = -1) → s = d.sign → s * (Int.gcd n d : Int) ≠ 0 ∧ s * (Int.gcd n d : Int) ≠ 0 ∧ Q (.d (.tup [.int (n.fdiv (s * Int.gcd n d)), .int (d.fdiv (s * Int.gcd n d))])) st := fun s hs e => by
    refine ⟨by rcases hs with rfl | rfl <;> omega, by rcases hs with rfl | rfl <;> omega, ?_⟩
    rw [sgn_div hg hn hs, sgn_div hg hd' hs, e, ← e1, ← e2]
    exact h
  refine ⟨rfl, ?_⟩
  refine seq_to ⟨[some (.d (.int n)), some (.d (.int d)), some (.d (.int n.natAbs)), none], st⟩ (fun K hK => by rw [← abs_eq n] at hK; exact hK) ?_
  refine seq_to ⟨[some (.d (.int n)), some (.d (.int d)), some (.d (.int n.natAbs)), some (.d (.int d.natAbs))], st⟩ (fun K hK => by rw [← abs_eq d] at hK; exact hK) ?_
  refine seq_to ⟨[some (.d (.int n)), some (.d (.int d)), some (.d (.int (Int.gcd n d : Int))), some (.d (.int 0))], st⟩ (fun K hK => ?_) ?_
  · refine ⟨fun k m => ∃ x y : Nat, m = ⟨[some (.d (.int n)), some (.d (.int d)), some (.d (.int x)), some (.d (.int y))], st⟩ ∧ k = y ∧ Nat.gcd x y = Int.gcd n d, ⟨d.natAbs, n.natAbs, d.natAbs, rfl, rfl, rfl⟩, ?_⟩
    rintro y m ⟨x, _, rfl, rfl, hgc⟩
    refine ⟨trivial, ?_⟩
    show if (decide ((0 : Int) < y)) = true then _ else _
    by_cases hy : (0 : Int) < y
    · rw [if_pos (decide_eq_true hy)]
      refine ⟨by omega, ?_⟩
      refine ⟨x % y, Nat.mod_lt _ (by omega), y, x % y, ?_, rfl, ?_⟩
      · rw [Int.natCast_emod, ← Int.fmod_eq_emod_of_nonneg _ (by omega)]
        rfl
      · rw [← hgc, Nat.gcd_comm x y, Nat.gcd_rec y x, Nat.gcd_comm]
    · rw [if_neg (by simp; omega)]
      have e : y = 0 := by omega
      subst e
      rw [Nat.gcd_zero_right] at hgc
      rw [← hgc] at hK
      exact hK
  refine ⟨trivial, ?_⟩
  show if (decide (d < 0)) = true then _ else _
  by_cases hs : d < 0
  · rw [if_pos (decide_eq_true hs)]
    obtain ⟨a, b, c⟩ := fin (-1) (.inr rfl) (Int.sign_eq_neg_one_of_neg hs).symm
    rw [Int.neg_one_mul] at a b c
    exact ⟨a, b, lineN rfl, tk c⟩
  · rw [if_neg (by simp; omega)]
    obtain ⟨a, b, c⟩ := fin 1 (.inl rfl) (Int.sign_eq_one_of_pos (by omega)).symm
    rw [Int.one_mul] at a b c
    exact ⟨a, b, lineN rfl, tk c⟩
theorem ladd2_ok (hz : zb x + zb y < ZM) (h : Q (.d (fr (x + y))) st) : sp__law_add_2 [.d (fr x), .d (fr y)] st Q := by
  unfold sp__law_add_2
  refine ⟨rfl, mk_nn (zb_num x) (dn y) hz, mk_nn (zb_num y) (dn x) (by omega), mk_nn (dn x) (dn y) hz, ?_⟩
  refine lfrac_ok (mul_nn x y) (tk ?_)
  rw [← add_val]
  exact h
theorem same_ok {d : Dt} (hs : shows d) (h : Q (.d (.bl true)) st) : sp__law_same [.d d, .d d] st Q := by
  unfold sp__law_same
  refine ⟨rfl, hs, hs, tk ?_⟩
  have e : decide (reprD d = reprD d) = true := decide_eq_true rfl
  rw [e]
  exact h
end
end PG

set_option maxRecDepth 100000
set_option maxHeartbeats 4000000
namespace PG
open PySem PySem.Spec PyProof.Rows L2 RT
theorem draw2_ok {ds : List Int} {i k : Nat} {n : Int} {st : List Cell} {Q : Vl → List Cell → Prop} (hk : st[k]? = some (Bx ds i)) (hn : 0 < n) (hi3 : i < 1000000) (h : ∀ r : Int, 0 ≤ r → r < n → Q (.d (.int r)) (st.set k (Bx ds (i + 1)))) :
    sp__law_draw_2 [.c k, .d (.int n)] st Q := by
  have hlt : k < st.length := (List.getElem?_eq_some_iff.mp hk).1
  have hs : (st.set k (Bx ds (i + 1)))[k]? = some (Bx ds (i + 1)) := by simp [hlt]
  have hl : (st.set k (Bx ds (i + 1))).length = st.length := List.length_set
  unfold sp__law_draw_2
  refine ⟨rfl, ?_⟩
  refine onV_c hk ?_
  refine onC_mk hk ?_
  refine onJ_mk (j := 1) rfl ?_
  have e0 : ([Dt.lst (ds.map .int), Dt.int i].set 1 (Dt.int (i + 1))) = [Dt.lst (ds.map .int), Dt.int ((i + 1 : Nat) : Int)] := rfl
  dsimp only
  rw [e0]
  change dSeq (dIfS _ _ _) _ _ ⟨_, st.set k (Bx ds (i + 1))⟩
  refine onV_c hs ?_
  refine onV_d (rIx_mk (z := Dt.lst (ds.map .int)) rfl ?_)
  refine ⟨trivial, ?_⟩
  show if (decide ((i : Int) < ((ds.map Dt.int).length : Int))) = true then _ else _
  rw [List.length_map]
  by_cases hi : (i : Int) < (ds.length : Int)
  · rw [if_pos (decide_eq_true hi)]
    refine onV_c hs ?_
    refine onV_d (rIx_mk (z := Dt.lst (ds.map .int)) rfl ?_)
    refine ix_ints (ns := ds) (k := (i : Int)) (by omega) (by omega) ?_
    refine ⟨by show n ≠ 0; omega, ?_⟩
    obtain ⟨b0, b1⟩ := fmod_bd (ds.getD (i : Int).toNat 0) hn
    have := h _ b0 b1
    rw [← hl]
    exact tk this
  · rw [if_neg (by simp; omega)]
    have li := log2_small (v := (i : Int)) (n := 20) (by omega) (by omega) (by decide)
    refine ⟨mulok (by rw [show (7 : Int).natAbs.log2 = 2 by decide]; unfold ZM; omega), ?_⟩
    refine ⟨by show n ≠ 0; omega, ?_⟩
    obtain ⟨b0, b1⟩ := fmod_bd ((i : Int) * 7 + 3) hn
    have := h _ b0 b1
    rw [← hl]
    exact tk this
end PG

set_option maxRecDepth 100000
set_option maxHeartbeats 4000000
namespace PG
open PySem PySem.Spec PyProof.Rows L2 RT
theorem row_ok {v k : Int} {st : List Cell} {Q : Vl → List Cell → Prop} (hv : v.natAbs.log2 ≤ 1048576) (hk0 : 0 ≤ k) (hk1 : k ≤ 100) (h : ∀ ds : List Int, Dg ds → ds.length ≤ 60 → Q (.d (.lst (ds.map .int))) st) :
    sp__law_row [.d (.int v), .d (.int k), .d (.int 12)] st Q := by
  unfold sp__law_row
  refine ⟨rfl, lineN rfl, ?_⟩
  dsimp only
  let S : Int → List Int → Option Vl → Option Vl → M := fun v ds z4 z5 => ⟨[some (.d (.int v)), some (.d (.int k)), some (.d (.int 12)), some (.c st.length), z4, z5], st ++ [.lst (ds.map .int)]⟩
  have ret : ∀ (v : Int) (ds : List Int) (z4 z5 : Option Vl), Dg ds → ds.length ≤ 60 → dRet (dVar 3) (endsOf false st.length Q) (S v ds z4 z5) := fun v ds z4 z5 hd hl => by
    show if st.length < st.length then _ else onC (st ++ [Cell.lst (ds.map Dt.int)]) st.length _
    rw [if_neg (Nat.lt_irrefl _)]
    refine onC_mk (getElem_last _ _) ?_
    rw [if_neg (by decide)]
    show Q (.d (.lst (ds.map .int))) ((st ++ [Cell.lst (ds.map Dt.int)]).take st.length)
    rw [List.take_left]
    exact h ds hd hl
  refine seq_mid (fun m' => ∃ v : Int, m' = S v [] none none ∧ 0 ≤ v ∧ v.natAbs.log2 ≤ 1048580) (fun K' hK' => ?_) ?_
  · refine ⟨trivial, ?_⟩
    show if (decide (v < 0)) = true then _ else _
    by_cases hv0 : v < 0
    · rw [if_pos (decide_eq_true hv0)]
      refine ⟨?_, trivial, hK' _ ⟨1 - 2 * v, rfl, by omega, ?_⟩⟩
      · show (2 : Int).natAbs.log2 + v.natAbs.log2 < 67108864
        have : (2 : Int).natAbs.log2 = 1 := by decide
        omega
      · have e : (1 - 2 * v).natAbs = 1 + 2 * v.natAbs := by omega
        rw [e]
        have h1 := @log2_add_le 1 (2 * v.natAbs)
        have h2 := @log2_mul_le 2 v.natAbs
        have h3 : Nat.log2 2 = 1 := by decide
        have h4 : Nat.log2 1 = 0 := by decide
        omega
    · rw [if_neg (by simp; omega)]
      exact hK' _ ⟨v, rfl, by omega, by omega⟩
  rintro _ ⟨v, rfl, hv0, hvb⟩
  refine ⟨⟨by decide, by decide, by decide⟩, trivial, ?_⟩
  show if (decide ((10 : Int) ^ 18 ≤ v)) = true then _ else _
  by_cases hbig : (10 : Int) ^ 18 ≤ v
  · rw [if_pos (decide_eq_true hbig)]
    refine ⟨⟨by decide, by decide⟩, ?_⟩
    refine range_inv (fun j l m => ∃ (ds' : List Int) (v : Int) (z : Option Vl), m = S v ds' z none ∧ Dg ds' ∧ ds'.length + j ≤ 60) ?_ ?_ 60 0 _ ⟨[], v, none, rfl, (show Dg [] from fun d hd => nomatch hd), Nat.le_refl _⟩
    · rintro j l m K2 hK2 ⟨ds', v, z, rfl, hd', hl2⟩
      refine ⟨trivial, ?_⟩
      show if (decide ((0 : Int) < v)) = true then _ else _
      by_cases hvp : (0 : Int) < v
      · rw [if_pos (decide_eq_true hvp)]
        refine onV_c (getElem_last _ _) ?_
        refine ⟨trivial, ?_⟩
        show if (decide (((ds'.map Dt.int).length : Int) < 12)) = true then _ else _
        by_cases h12 : ((ds'.map Dt.int).length : Int) < 12
        · rw [if_pos (decide_eq_true h12)]
          refine ⟨⟨_, getElem_last _ _⟩, k1000, onC_mk (getElem_last _ _) ⟨small_lt (by rw [List.length_map]; omega), k1000, ?_⟩⟩
          obtain ⟨b0, b1⟩ := fmod_bd v (n := 1000) (by decide)
          refine hK2 _ ⟨ds' ++ [v.fmod 1000], v.fdiv 1000, some (.d (.int l)), ?_, hd'.app b0 b1, by rw [List.length_append, List.length_singleton]; omega⟩
          exact congrArg (M.mk _) push_st
        · rw [if_neg (by simpa using h12)]
          exact hK2 _ ⟨ds', v, some (.d (.int l)), rfl, hd', by omega⟩
      · rw [if_neg (by simp; omega)]
        exact hK2 _ ⟨ds', v, some (.d (.int l)), rfl, hd', by omega⟩
    · rintro l m ⟨ds', v, z, rfl, hd', hl2⟩
      exact ret v ds' z none hd' (by omega)
  · rw [if_neg (by simp; omega)]
    have hv18 : v < 2 ^ 60 := by
      have : (10 : Int) ^ 18 < 2 ^ 60 := by decide
      omega
    have lv := log2_small hv0 hv18 (by decide)
    have llo := log2_small (v := k) (n := 7) hk0 (by omega) (by decide)
    refine ⟨?_, ?_, kMx, ?_⟩
    · show v.natAbs.log2 + (48271 : Int).natAbs.log2 < 67108864
      have : (48271 : Int).natAbs.log2 = 15 := by decide
      omega
    · show k.natAbs.log2 + (69621 : Int).natAbs.log2 < 67108864
      have : (69621 : Int).natAbs.log2 = 16 := by decide
      omega
    refine ⟨⟨by decide, by decide⟩, ?_⟩
    obtain ⟨s0, s1⟩ := fmod_bd (v * 48271 + k * 69621 + 11) (n := 2147483647) (by decide)
    refine range_inv (fun j l m => ∃ (ds' : List Int) (sd : Int) (z : Option Vl), m = S v ds' z (some (.d (.int sd))) ∧ Dg ds' ∧ ds'.length + j ≤ 12 ∧ 0 ≤ sd ∧ sd < 2147483647 ∧ 0 ≤ l ∧ l + j = 12) ?_ ?_ 12 0 _ ⟨[], _, none, rfl, (show Dg [] from fun d hd => nomatch hd), Nat.le_refl _, s0, s1, by decide, by decide⟩
    · rintro j l m K2 hK2 ⟨ds', sd, z, rfl, hd', hl2, c0, c1, l0, l1⟩
      have lsd := log2_small (n := 31) c0 (by omega) (by decide)
      have ll := log2_small (v := l) (n := 4) l0 (by omega) (by decide)
      refine ⟨?_, ?_, kMx, ?_⟩
      · show sd.natAbs.log2 + (16807 : Int).natAbs.log2 < 67108864
        have : (16807 : Int).natAbs.log2 = 14 := by decide
        omega
      · show (7 : Int).natAbs.log2 + l.natAbs.log2 < 67108864
        have : (7 : Int).natAbs.log2 = 2 := by decide
        omega
      obtain ⟨t0, t1⟩ := fmod_bd (sd * 16807 + 7 * l + 1) (n := 2147483647) (by decide)
      refine ⟨⟨_, getElem_last _ _⟩, k997, k1000, onC_mk (getElem_last _ _) ⟨small_lt (by rw [List.length_map]; omega), ?_⟩⟩
      obtain ⟨b0, b1⟩ := fmod_bd (((sd * 16807 + 7 * l + 1).fmod 2147483647).fdiv 997) (n := 1000) (by decide)
      refine hK2 _ ⟨ds' ++ [(((sd * 16807 + 7 * l + 1).fmod 2147483647).fdiv 997).fmod 1000], _, some (.d (.int l)), ?_, hd'.app b0 b1, by rw [List.length_append, List.length_singleton]; omega, t0, t1, by omega, by omega⟩
      exact congrArg (M.mk _) push_st
    · rintro l m ⟨ds', sd, z, rfl, hd', hl2, _⟩
      exact ret v ds' z _ hd' (by omega)
theorem box_ok {ns : List Int} {b : Int} {st : List Cell} {Q : Vl → List Cell → Prop} (hb : Bits ns) (h0 : 0 ≤ b) (h2 : b ≤ 100) (h : ∀ ds : List Int, Dg ds → ds.length ≤ 6000 → Q (.c st.length) (st ++ [Bx ds 0])) :
    sp__law_box [.d (.lst (ns.map .int)), .d (.int 0), .d (.int b)] st Q := by
  unfold sp__law_box
  refine ⟨rfl, lineN rfl, ?_⟩
  refine ⟨⟨⟨by decide, by decide⟩, ⟨by omega, by omega⟩⟩, ?_⟩
  refine range_inv (fun n lo m => ∃ (ds : List Int) (z : Option Vl), m = ⟨[some (.d (.lst (ns.map .int))), some (.d (.int 0)), some (.d (.int b)), some (.d (.lst (ds.map .int))), z], st⟩ ∧ Dg ds ∧ 0 ≤ lo ∧ lo + n = b ∧ ds.length ≤ 60 * lo.toNat) ?_ ?_ (b - 0).toNat 0 _ ⟨[], none, rfl, (show Dg [] from fun d hd => nomatch hd), Int.le_refl _, by omega, Nat.zero_le _⟩
  · rintro n lo m K hK ⟨ds, z, rfl, hd, hlo, hn, hl⟩
    refine cell_ok hb (by omega) fun v hv => ?_
    refine row_ok hv hlo (by omega) fun ds2 hd2 hl2 => ?_
    refine ⟨?_, ?_⟩
    · rw [List.length_map, List.length_map]
      exact Nat.le_of_lt (small_lt (by omega))
    · refine hK _ ⟨ds ++ ds2, some (.d (.int lo)), ?_, fun d hx => (List.mem_append.mp hx).elim (hd d) (hd2 d), by omega, by omega, by rw [List.length_append]; omega⟩
      rw [List.map_append]
      rfl
  · rintro lo m ⟨ds, z, rfl, hd, hlo, hn, hl⟩
    refine ⟨lineN rfl, ?_⟩
    show if st.length < st.length then _ else onC (st ++ [Bx ds 0]) st.length _
    rw [if_neg (Nat.lt_irrefl _)]
    refine onC_mk (getElem_last _ _) ?_
    rw [if_pos rfl]
    show Q (.c st.length) ((st ++ [Bx ds 0]).take st.length ++ [Bx ds 0])
    rw [List.take_left]
    exact h ds hd (by omega)
end PG

set_option maxRecDepth 100000
set_option maxHeartbeats 4000000
namespace PG
open PySem PySem.Spec PyProof.Rows L2 RT
theorem slt {n : Nat} (h : Nat.ble n 1000 = true) : n < sizeLine := small_lt (Nat.lt_of_le_of_lt (Nat.le_of_ble_eq_true h) (by decide))

structure Hp3 where
  p : Int
  q : Int
  r : Int
  deriving DecidableEq
def HZ (n : Nat) (h : Hp3) : Prop := h.p.natAbs.log2 + 2 ≤ n ∧ h.q.natAbs.log2 + 2 ≤ n ∧ h.r.natAbs.log2 + 2 ≤ n
def valH (h : Hp3) (x : Ray) : Rat := (h.p : Rat) * x.1 + (h.q : Rat) * x.2
def hasH (x : Ray) (h : Hp3) : Bool := decide (valH h x ≤ (h.r : Rat))
theorem zb_int (n : Int) : zb (n : Rat) ≤ n.natAbs.log2 + 2 := by
  unfold zb
  rw [Rat.num_intCast, Rat.den_intCast]
  have : Nat.log2 1 = 0 := by decide
  omega
section
variable {st : List Cell} {Q : Vl → List Cell → Prop}
end

def mkX (p q r : Rat) : Int := p.num * (q.den * r.den)
def mkY (p q r : Rat) : Int := q.num * (p.den * r.den)
def mkZ (p q r : Rat) : Int := r.num * (p.den * q.den)
def mkG (p q r : Rat) : Int := (Int.gcd (Int.gcd (mkX p q r) (mkY p q r) : Int) (mkZ p q r) : Int)
def mkH (p q r : Rat) : Hp3 := ⟨mkX p q r / mkG p q r, mkY p q r / mkG p q r, mkZ p q r / mkG p q r⟩
section
variable {p q r : Rat}
end
end PG

set_option maxRecDepth 100000
set_option maxHeartbeats 4000000
namespace PG
open PySem PySem.Spec PyProof.Rows L2 RT
abbrev Ed := Nat × Bool
def lowE (k : Nat) (lo : Option Rat) (m : Mp) : List (Ed × Hp3) := match lo with
  | none => []
  | some l => [((k, false), mkH (-m.a) (-m.b) (m.e - l))]
def uppE (k : Nat) (hi : Option Rat) (m : Mp) : List (Ed × Hp3) := match hi with
  | none => []
  | some u => [((k, true), mkH m.a m.b (u - m.e))]
section
variable {st : List Cell} {Q : Vl → List Cell → Prop}
def edgesAt (k : Nat) (e : El) (m : Mp) : List (Ed × Hp3) := match e with
  | .stop lo hi => lowE k lo m ++ uppE k hi m
  | _ => []
def planesOf : Nat → Mp → List El → List (Ed × Hp3)
  | _, _, [] => []
  | k, m, e :: es => edgesAt k e m ++ planesOf (k + 1) (comp m (elM e)) es
end

end PG

set_option maxRecDepth 100000
set_option maxHeartbeats 4000000
namespace PG
open PySem PySem.Spec PyProof.Rows L2 RT
end PG

set_option maxRecDepth 100000
set_option maxHeartbeats 4000000
namespace PG
open PySem PySem.Spec PyProof.Rows L2 RT

def Rg (hs : List Hp3) (x : Ray) : Prop := ∀ g ∈ hs, valH g x ≤ (g.r : Rat)
def Dir (g : Hp3) : Prop := ¬ (g.p = 0 ∧ g.q = 0)
def dt (g k : Hp3) : Int := g.p * k.q - g.q * k.p
def dotI (g k : Hp3) : Int := g.p * k.p + g.q * k.q

theorem castI {a b : Int} : ((a * b : Int) : Rat) = (a : Rat) * (b : Rat) := Rat.intCast_mul ..
theorem dt_cast (g k : Hp3) : (dt g k : Rat) = (g.p : Rat) * (k.q : Rat) - (g.q : Rat) * (k.p : Rat) := by
  unfold dt
  rw [Rat.intCast_sub, castI, castI]
theorem dot_cast (g k : Hp3) : (dotI g k : Rat) = (g.p : Rat) * (k.p : Rat) + (g.q : Rat) * (k.q : Rat) := by
  unfold dotI
  rw [Rat.intCast_add, castI, castI]
theorem sq_pos {a : Rat} (h : a ≠ 0) : 0 < a * a := by
  rcases Rat.le_total (a := 0) (b := a) with z | z
  · have : 0 < a := by grind
    exact Rat.mul_pos this this
  · have : 0 < -a := by grind
    have := Rat.mul_pos this this
    grind
theorem sq_nn (a : Rat) : 0 ≤ a * a := by
  by_cases h : a = 0
  · rw [h]; grind
  · exact Rat.le_of_lt (sq_pos h)
theorem n2_pos {p q : Rat} (h : ¬ (p = 0 ∧ q = 0)) : 0 < p * p + q * q := by
  have a := sq_nn p
  have b := sq_nn q
  by_cases hp : p = 0
  · have hq : q ≠ 0 := fun e => h ⟨hp, e⟩
    have := sq_pos hq
    grind
  · have := sq_pos hp
    grind
theorem Dir.rat {g : Hp3} (h : Dir g) : ¬ ((g.p : Rat) = 0 ∧ (g.q : Rat) = 0) := fun ⟨a, b⟩ => h ⟨Rat.intCast_eq_zero_iff.mp a, Rat.intCast_eq_zero_iff.mp b⟩
theorem Dir.pos {g : Hp3} (h : Dir g) : (0 : Rat) < (dotI g g : Rat) := by
  rw [dot_cast]
  exact n2_pos h.rat
end PG

set_option maxRecDepth 100000
set_option maxHeartbeats 4000000
namespace PG
open PySem PySem.Spec PyProof.Rows L2 RT
end PG

set_option maxRecDepth 100000
set_option maxHeartbeats 4000000
namespace PG
open PySem PySem.Spec PyProof.Rows L2 RT

def ab (a : Int) : Int := if a < 0 then -a else a
def n1 (g : Hp3) : Int := ab g.p + ab g.q
def oppW (g k : Hp3) : Option (Int × Int) := if dt g k ≠ 0 ∨ 0 ≤ dotI g k then none else some (n1 k / (Int.gcd (n1 k) (n1 g) : Int), n1 g / (Int.gcd (n1 k) (n1 g) : Int))
def w3 (g k l : Hp3) : Int × Int × Int := if dt k l < 0 then (-dt k l, -dt l g, -dt g k) else (dt k l, dt l g, dt g k)
def gcd3 (a b c : Int) : Int := (Int.gcd (Int.gcd a b : Int) c : Int)
def triW (g k l : Hp3) : Option (Int × Int × Int) := if (w3 g k l).1 ≤ 0 ∨ (w3 g k l).2.1 ≤ 0 ∨ (w3 g k l).2.2 ≤ 0 then none else
  some ((w3 g k l).1 / gcd3 (w3 g k l).1 (w3 g k l).2.1 (w3 g k l).2.2, (w3 g k l).2.1 / gcd3 (w3 g k l).1 (w3 g k l).2.1 (w3 g k l).2.2, (w3 g k l).2.2 / gcd3 (w3 g k l).1 (w3 g k l).2.1 (w3 g k l).2.2)
theorem ab_nat (a : Int) : ab a = (a.natAbs : Int) := abs_eq a
theorem n1_pos {g : Hp3} (h : Dir g) : 0 < n1 g := by
  unfold n1 ab
  unfold Dir at h
  split <;> split <;> omega

def C2 (g k : Hp3) : Prop := ∃ t : Rat, 0 < t ∧ (k.p : Rat) = - t * (g.p : Rat) ∧ (k.q : Rat) = - t * (g.q : Rat) ∧ Dir g ∧ t * (g.r : Rat) + (k.r : Rat) < 0
def C3 (g k l : Hp3) : Prop := ∃ a b c : Rat, 0 < a ∧ 0 < b ∧ 0 < c ∧ a * (g.p : Rat) + b * (k.p : Rat) + c * (l.p : Rat) = 0 ∧ a * (g.q : Rat) + b * (k.q : Rat) + c * (l.q : Rat) = 0 ∧ a * (g.r : Rat) + b * (k.r : Rat) + c * (l.r : Rat) < 0 ∧ dt g k ≠ 0
end PG

set_option maxRecDepth 100000
set_option maxHeartbeats 4000000
namespace PG
open PySem PySem.Spec PyProof.Rows L2 RT
theorem lga {a b : Int} {n : Nat} (h1 : a.natAbs.log2 ≤ n) (h2 : b.natAbs.log2 ≤ n) : (a + b).natAbs.log2 ≤ n + 1 := by
  have := log2_mono (Int.natAbs_add_le a b)
  have := @log2_add_le a.natAbs b.natAbs
  omega
section
variable {st : List Cell} {Q : Vl → List Cell → Prop} {g k l : Hp3} {n : Nat}
end
end PG

set_option maxRecDepth 100000
set_option maxHeartbeats 4000000
namespace PG
open PySem PySem.Spec PyProof.Rows L2 RT

def hAt (hs : List Hp3) (i : Nat) : Hp3 := hs.getD i ⟨1, 0, 0⟩
def ixD (ix : List Nat) : Dt := .tup (ix.map fun i : Nat => Dt.int (i : Int))
def wsD (ws : List Int) : Dt := .tup (ws.map .int)
def oD (s : List Nat × List Int) : Dt := .tup [ixD s.1, wsD s.2]
section
variable {st : List Cell} {Q : Vl → List Cell → Prop} {hs : List Hp3} {n : Nat}
end
end PG

set_option maxRecDepth 100000
set_option maxHeartbeats 4000000
namespace PG
open PySem PySem.Spec PyProof.Rows L2 RT
inductive OS (hs : List Hp3) : List Nat × List Int → Prop where
  | two (i j : Nat) (a b : Int) (h1 : i < j) (h2 : j < hs.length) (h : oppW (hAt hs i) (hAt hs j) = some (a, b)) : OS hs ([i, j], [a, b])
  | three (i j k : Nat) (a b c : Int) (h1 : i < j) (h2 : j < k) (h3 : k < hs.length) (h : triW (hAt hs i) (hAt hs j) (hAt hs k) = some (a, b, c)) : OS hs ([i, j, k], [a, b, c])

theorem C2.symm {g k : Hp3} : C2 g k → C2 k g := fun ⟨t, ht, e1, e2, dg, hn⟩ => by
  have ti : 0 < 1 / t := by
    rw [Rat.div_def]
    exact Rat.mul_pos (by decide) (Rat.inv_pos.mpr ht)
  refine ⟨1 / t, ti, by grind, by grind, fun ⟨a, b⟩ => ?_, ?_⟩
  · rw [a] at e1
    rw [b] at e2
    have z : ((0 : Int) : Rat) = 0 := rfl
    refine dg ⟨Rat.intCast_eq_zero_iff.mp ?_, Rat.intCast_eq_zero_iff.mp ?_⟩
    · grind
    · grind
  · have w := mul_lt ti hn
    have : 1 / t * (t * (g.r : Rat) + (k.r : Rat)) = (g.r : Rat) + 1 / t * (k.r : Rat) := by grind
    rw [this] at w
    grind
where
  mul_lt {t a : Rat} (ht : 0 < t) (h : a < 0) : t * a < 0 := by
    have := Rat.mul_pos ht (show 0 < -a by grind)
    grind
theorem C3.nd {g k l : Hp3} : C3 g k l → dt k l ≠ 0 := fun ⟨a, b, c, pa, pb, pc, e1, e2, hn, nd⟩ z => by
  have h1 := dt_cast g k
  have h2 := dt_cast k l
  rw [z] at h2
  have z0 : ((0 : Int) : Rat) = 0 := rfl
  have nd' : (dt g k : Rat) ≠ 0 := fun y => nd (Rat.intCast_eq_zero_iff.mp y)
  rw [h1] at nd'
  -- cross with k: a dt(g, k) = c dt(k, l)
  have : a * ((g.p : Rat) * (k.q : Rat) - (g.q : Rat) * (k.p : Rat)) = 0 := by grind
  grind
end PG

set_option maxRecDepth 100000
set_option maxHeartbeats 4000000
namespace PG
open PySem PySem.Spec PyProof.Rows L2 RT
theorem rangeD_map : ∀ (n k : Nat), rangeD (k : Int) n = (List.range' k n).map fun i : Nat => Dt.int (i : Int)
  | 0, _ => rfl
  | n + 1, k => by
    rw [List.range'_succ, List.map_cons, ← rangeD_map n (k + 1)]
    rfl

theorem lgn1 {n : Nat} {g : Hp3} (h : HZ n g) : (n1 g).natAbs.log2 + 1 ≤ n := by
  unfold n1
  have := lga (a := ab g.p) (b := ab g.q) (n := n - 2) (by rw [ab_nat, Int.natAbs_natCast]; have := h.1; omega) (by rw [ab_nat, Int.natAbs_natCast]; have := h.2.1; omega)
  have := h.1
  omega
section
variable {st : List Cell} {Q : Vl → List Cell → Prop} {hs : List Hp3} {n : Nat}
end
end PG

set_option maxRecDepth 100000
set_option maxHeartbeats 4000000
namespace PG
open PySem PySem.Spec PyProof.Rows L2 RT
section
variable {st : List Cell} {Q : Vl → List Cell → Prop} {hs : List Hp3} {n : Nat}
end
end PG

set_option maxRecDepth 100000
set_option maxHeartbeats 4000000
namespace PG
open PySem PySem.Spec PyProof.Rows L2 RT

end PG

set_option maxRecDepth 100000
set_option maxHeartbeats 4000000
namespace PG
open PySem PySem.Spec PyProof.Rows L2 RT
def Pl (g : Hp3) : Prop := Dir g ∧ g.p.natAbs ≤ 2 ∧ g.q.natAbs ≤ 2 ∧ g.r.natAbs ≤ 6
theorem log_le {z : Int} {n b : Nat} (h : z.natAbs ≤ n) (hb : n < 2 ^ (b + 1)) : z.natAbs.log2 ≤ b := by
  by_cases h0 : z.natAbs = 0
  · rw [h0]
    exact Nat.zero_le _
  · have := (Nat.log2_lt h0 (k := b + 1)).mpr (by omega)
    omega
theorem Pl.z {g : Hp3} (h : Pl g) : HZ 4 g := by
  obtain ⟨_, h1, h2, h3⟩ := h
  have a := log_le (b := 1) h1 (by decide)
  have b := log_le (b := 1) h2 (by decide)
  have c := log_le (b := 2) h3 (by decide)
  exact ⟨by omega, by omega, by omega⟩
section
variable {ds : List Int} {i k : Nat} {st : List Cell} {Q : Vl → List Cell → Prop}
end
end PG

set_option maxRecDepth 100000
set_option maxHeartbeats 4000000
namespace PG
open PySem PySem.Spec PyProof.Rows L2 RT
theorem fr_int (z : Int) : Dt.tup [.int z, .int 1] = fr (z : Rat) := rfl
theorem Pl.zb {g : Hp3} (h : Pl g) : zb (g.p : Rat) ≤ 5 ∧ zb (g.q : Rat) ≤ 5 ∧ zb (g.r : Rat) ≤ 5 := by
  obtain ⟨a, b, c⟩ := h.z
  have := zb_int g.p
  have := zb_int g.q
  have := zb_int g.r
  omega
section
variable {st : List Cell} {Q : Vl → List Cell → Prop} {g k l : Hp3} {x : Ray} {n : Nat} {hs : List Hp3}
theorem Pl.ab (hg : Pl g) : g.p.natAbs ≤ 6 ∧ g.q.natAbs ≤ 6 ∧ g.r.natAbs ≤ 6 := by
  obtain ⟨_, a, b, c⟩ := hg
  omega
theorem divI_z {a d : Int} (h0 : d ≠ 0) (h1 : a.natAbs ≤ 1000) (h2 : d.natAbs ≤ 1000) : zb (Rat.divInt a d) ≤ 20 := by
  have := zb_divInt (n := a) h0
  have := log_le (b := 9) h1 (by decide)
  have := log_le (b := 9) h2 (by decide)
  omega
end
end PG

set_option maxRecDepth 100000
set_option maxHeartbeats 4000000
namespace PG
open PySem PySem.Spec PyProof.Rows L2 RT
section
variable {st : List Cell} {Q : Vl → List Cell → Prop} {g k l : Hp3} {x : Ray} {n : Nat} {hs : List Hp3}
end
end PG

set_option maxRecDepth 100000
set_option maxHeartbeats 4000000
namespace PG
open PySem PySem.Spec PyProof.Rows L2 RT
section
variable {st : List Cell} {Q : Vl → List Cell → Prop} {g k l : Hp3} {x : Ray} {n : Nat} {hs : List Hp3}
end
end PG

set_option maxRecDepth 100000
set_option maxHeartbeats 4000000
namespace PG
open PySem PySem.Spec PyProof.Rows L2 RT
section
variable {st : List Cell} {Q : Vl → List Cell → Prop} {hs : List Hp3} {n : Nat}
end

end PG

set_option maxRecDepth 100000
set_option maxHeartbeats 4000000
namespace PG
open PySem PySem.Spec PyProof.Rows L2 RT

structure Sw (k W : Nat) (d : Dt) : Prop where
  shw : (toPy d).showable = true
  itg : (toPy d).intsShort 13 = true
  lay : (toPy d).canLay0 = true
  dep : (toPy d).depth ≤ k
  wt : (toPy d).weight ≤ W
theorem Sw.shows {k W : Nat} {d : Dt} (h : Sw k W d) (hk : k ≤ 60) (hW : W ≤ 1000000) : shows d := by
  refine ⟨h.shw, Nat.le_trans h.dep hk, ?_⟩
  have hl : PyData.layable0 (toPy d) = true := by
    unfold PyData.layable0
    rw [h.lay, decide_eq_true (show (toPy d).depth ≤ 64 by have := h.dep; omega), decide_eq_true (show (toPy d).weight ≤ 2 ^ 20 by have := h.wt; omega)]
    rfl
  exact PyData.shown_fits_of_layable0 (B := 13) (by decide) (by decide) hl h.itg

def Pg (g : Hp3) : Prop := Dir g ∧ gcd3 g.p g.q g.r = 1 ∧ g.p.natAbs ≤ 1000000 ∧ g.q.natAbs ≤ 1000000 ∧ g.r.natAbs ≤ 1000000
theorem Pg.z {g : Hp3} (h : Pg g) : HZ 30 g := by
  obtain ⟨_, _, h1, h2, h3⟩ := h
  have a := log_le (b := 20) h1 (by decide)
  have b := log_le (b := 20) h2 (by decide)
  have c := log_le (b := 20) h3 (by decide)
  exact ⟨by omega, by omega, by omega⟩
end PG

set_option maxRecDepth 100000
set_option maxHeartbeats 4000000
namespace PG
open PySem PySem.Spec PyProof.Rows L2 RT

end PG

set_option maxRecDepth 100000
set_option maxHeartbeats 4000000
namespace PG
open PySem PySem.Spec PyProof.Rows L2 RT

def befR (a b : Ray) : Bool := if a.1 = b.1 then decide (a.2 < b.2) else decide (a.1 < b.1)
def putF (L : List Ray) (x : Ray) : List Ray := if x ∈ L then L else L.take (L.filter fun y => befR y x).length ++ [x] ++ L.drop (L.filter fun y => befR y x).length

abbrev Wy2 := Int × Int
def stp (d : Wy2) (j : Nat) : Ray := (Rat.divInt d.1 (2 ^ j : Int), Rat.divInt d.2 (2 ^ j : Int))
def plusR (x y : Ray) : Ray := (x.1 + y.1, x.2 + y.2)
def minusR (x y : Ray) : Ray := (x.1 - y.1, x.2 - y.2)
def stepB (hs : List Hp3) (x : Ray) (d : Wy2) : Bool := (List.range' 1 30).any fun j => hs.all (hasH (plusR x (stp d j))) && hs.all (hasH (minusR x (stp d j)))
end PG

set_option maxRecDepth 100000
set_option maxHeartbeats 4000000
namespace PG
open PySem PySem.Spec PyProof.Rows L2 RT
section
variable {st : List Cell} {Q : Vl → List Cell → Prop} {hs : List Hp3} {n : Nat} {g k : Hp3} {x : Ray}
end
end PG

set_option maxRecDepth 100000
set_option maxHeartbeats 4000000
namespace PG
open PySem PySem.Spec PyProof.Rows L2 RT
section
variable {st : List Cell} {Q : Vl → List Cell → Prop} {g k : Hp3}
theorem Pg.ab (h : Pg g) : g.p.natAbs ≤ 10000000 ∧ g.q.natAbs ≤ 10000000 ∧ g.r.natAbs ≤ 10000000 ∧ 0 < n1 g ∧ (n1 g).natAbs ≤ 10000000 := by
  have := n1_pos h.1
  obtain ⟨_, _, a, b, c⟩ := h
  unfold n1 at *
  rw [ab_nat, ab_nat] at *
  omega
end
end PG

set_option maxRecDepth 100000
set_option maxHeartbeats 4000000
namespace PG
open PySem PySem.Spec PyProof.Rows L2 RT
section
variable {st : List Cell} {Q : Vl → List Cell → Prop}
end
end PG

set_option maxRecDepth 100000
set_option maxHeartbeats 4000000
namespace PG
open PySem PySem.Spec PyProof.Rows L2 RT
theorem num_le {n d : Int} : (Rat.divInt n d).num.natAbs ≤ n.natAbs := by
  rw [Rat.num_divInt]
  have : (d.sign * n / (d.gcd n : Int)).natAbs ≤ (d.sign * n).natAbs := Int.natAbs_ediv_le_natAbs ..
  rw [Int.natAbs_mul] at this
  have h2 : d.sign.natAbs ≤ 1 := by
    rcases Int.lt_trichotomy d 0 with h | h | h
    · rw [Int.sign_eq_neg_one_of_neg h]
      decide
    · rw [h]
      decide
    · rw [Int.sign_eq_one_of_pos h]
      decide
  have := Nat.mul_le_mul_right n.natAbs h2
  omega
theorem den_le {n d : Int} (hd : d ≠ 0) : (Rat.divInt n d).den ≤ d.natAbs := by
  rw [Rat.den_divInt, if_neg hd]
  exact Nat.div_le_self ..
def Fr (r : Rat) : Prop := ∃ n d : Int, r = Rat.divInt n d ∧ 0 < d ∧ d ≤ 3 ∧ n.natAbs ≤ 30
theorem Fr.nd {r : Rat} : Fr r → r.num.natAbs ≤ 30 ∧ r.den ≤ 3 := fun ⟨n, d, e, h1, h2, h3⟩ => by
  rw [e]
  have := num_le (n := n) (d := d)
  have := den_le (n := n) (d := d) (by omega)
  omega
section
variable {st : List Cell} {Q : Vl → List Cell → Prop}
end
end PG

set_option maxRecDepth 100000
set_option maxHeartbeats 4000000
namespace PG
open PySem PySem.Spec PyProof.Rows L2 RT
theorem Fr.zb {r : Rat} (h : Fr r) : zb r ≤ 20 := by
  obtain ⟨n, d, rfl, h1, h2, h3⟩ := h
  exact divI_z (by omega) (by omega) (by omega)
section
variable {st : List Cell} {Q : Vl → List Cell → Prop}
theorem lfraction4_ok {ds : List Int} {i k : Nat} (hk : st[k]? = some (Bx ds i)) (hi : i < 900000) (h : ∀ r : Rat, (∃ n d : Int, r = Rat.divInt n d ∧ 0 < d ∧ d ≤ 3 ∧ n.natAbs ≤ 4) → Q (.d (fr r)) (st.set k (Bx ds (i + 2)))) : sp__law_fraction [.c k] st Q := by
  have hlt : k < st.length := (List.getElem?_eq_some_iff.mp hk).1
  have hs : ∀ c : Cell, (st.set k c)[k]? = some c := fun c => by simp [hlt]
  have hl : ∀ c : Cell, (st.set k c).length = st.length := fun c => List.length_set
  unfold sp__law_fraction
  refine ⟨rfl, draw2_ok hk (by decide) (by omega) fun a a0 a1 => ⟨trivial, slt rfl, ?_⟩⟩
  refine draw2_ok (hs _) (by decide) (by omega) fun b b0 b1 => ?_
  rw [List.set_set]
  have hb : ∃ d : Int, atI [Dt.int 1, .int 1, .int 2, .int 3] b = some (.int d) ∧ 0 < d ∧ d ≤ 3 := by
    have : b = 0 ∨ b = 1 ∨ b = 2 ∨ b = 3 := by omega
    rcases this with rfl | rfl | rfl | rfl
    · exact ⟨1, rfl, by decide, by decide⟩
    · exact ⟨1, rfl, by decide, by decide⟩
    · exact ⟨2, rfl, by decide, by decide⟩
    · exact ⟨3, rfl, by decide, by decide⟩
  obtain ⟨d, e, d0, d1⟩ := hb
  refine rIx_mk e ?_
  refine lfrac_ok (by omega) ?_
  rw [← hl (Bx ds (i + 2))]
  exact tk (h _ ⟨a - 4, d, rfl, d0, d1, by omega⟩)
end
end PG

set_option maxRecDepth 100000
set_option maxHeartbeats 4000000
namespace PG
open PySem PySem.Spec PyProof.Rows L2 RT

theorem f4_pn {r : Rat} : (∃ n d : Int, r = Rat.divInt n d ∧ 0 < d ∧ d ≤ 3 ∧ n.natAbs ≤ 4) → Pn r := fun ⟨n, d, e, h1, h2, h3⟩ => ⟨n, d.toNat, by rw [e]; congr 1; omega, by omega, by omega, by omega⟩
section
variable {ds : List Int} {i k : Nat} {st : List Cell} {Q : Vl → List Cell → Prop}
theorem frac2_ok (hk : st[k]? = some (Bx ds i)) (hi : i < 900000) (h : ∀ r : Rat, Pn r → Q (.d (fr r)) (st.set k (Bx ds (i + 2)))) : sp__law_fraction [.c k] st Q :=
  lfraction4_ok hk hi fun r hr => h r (f4_pn hr)
theorem nonzero_ok (hk : st[k]? = some (Bx ds i)) (hi : i < 900000) (h : ∀ r : Rat, Pn r → r ≠ 0 → Q (.d (fr r)) (st.set k (Bx ds (i + 2)))) : sp__law_nonzero [.c k] st Q := by
  have hl : ∀ c : Cell, (st.set k c).length = st.length := fun c => List.length_set
  unfold sp__law_nonzero
  refine ⟨rfl, frac2_ok hk hi fun r hr => ?_⟩
  let S : M := ⟨[some (.c k), some (.d (fr r))], st.set k (Bx ds (i + 2))⟩
  have tk' : ∀ {v : Vl}, Q v (st.set k (Bx ds (i + 2))) → Q v ((st.set k (Bx ds (i + 2))).take st.length) := fun {v} q => by
    rw [← hl (Bx ds (i + 2))]
    exact tk q
  dsimp only
  by_cases c : r = 0
  · refine ifs_t S (fun K hK => ⟨rfl, rfl, ?_⟩) ⟨lineN rfl, tk' (h (Rat.divInt 1 2) pn_half (by decide))⟩
    show K (eqD (.int r.num) (.int 0)) _
    rw [eqD_int, decide_eq_true (Rat.num_eq_zero.mpr c)]
    exact hK
  · refine guard_st S (fun K hK => ⟨rfl, rfl, ?_⟩) (tk' (h r hr c))
    show K (eqD (.int r.num) (.int 0)) _
    rw [eqD_int, decide_eq_false (fun z => c (Rat.num_eq_zero.mp z))]
    exact hK
theorem stop2_ok (hk : st[k]? = some (Bx ds i)) (hi : i < 800000) (h : ∀ (lo hi : Option Rat), ElIn (.stop lo hi) → Q (.d (elD (.stop lo hi))) (st.set k (Bx ds (i + 4)))) : sp__law_stop_2 [.c k] st Q := by
  have hlt : k < st.length := (List.getElem?_eq_some_iff.mp hk).1
  have hs : ∀ c : Cell, (st.set k c)[k]? = some c := fun c => by simp [hlt]
  have hl : ∀ c : Cell, (st.set k c).length = st.length := fun c => List.length_set
  have tk' : ∀ {v : Vl} {c : Cell}, Q v (st.set k c) → Q v ((st.set k c).take st.length) := fun {v c} q => by
    rw [← hl c]
    exact tk q
  unfold sp__law_stop_2
  refine ⟨rfl, frac2_ok hk (by omega) fun l hl1 => ?_⟩
  refine draw2_ok (hs _) (by decide) (by omega) fun a a0 a1 => ?_
  rw [List.set_set]
  refine lfrac_ok (by decide) ?_
  have hd : In 12 6 (Rat.divInt a 2) := in_div (d := 2) (by decide) ⟨6, rfl⟩ (by omega)
  have zd := in_zb (b := 7) (by decide) hd (by decide) (by decide) (by decide)
  refine ladd2_ok (x := l) (y := Rat.divInt a 2) (zm (by have := hl1.zb; omega)) ?_
  have hu : In 12 12 (l + Rat.divInt a 2) := in_add hl1.in_ hd
  have hl12 : In 12 12 l := in_le (by decide) hl1.in_
  generalize l + Rat.divInt a 2 = u at hu
  refine draw2_ok (hs _) (by decide) (by omega) fun w w0 w1 => ?_
  rw [List.set_set]
  let S : M := ⟨[some (.c k), some (.d (fr l)), some (.d (fr u)), some (.d (.int w))], st.set k (Bx ds (i + 4))⟩
  dsimp only
  by_cases c0 : w = 0
  · refine ifs_t S (fun K hK => ⟨rfl, rfl, ?_⟩) ⟨lineN rfl, tk' (h none (some u) ⟨(fun q e => nomatch e), fun q e => by cases e; exact hu⟩)⟩
    show K (eqD (.int w) (.int 0)) _
    rw [eqD_int, decide_eq_true c0]
    exact hK
  refine guard_st S (fun K hK => ⟨rfl, rfl, ?_⟩) ?_
  · show K (eqD (.int w) (.int 0)) _
    rw [eqD_int, decide_eq_false c0]
    exact hK
  by_cases c1 : w = 1
  · refine ifs_t S (fun K hK => ⟨rfl, rfl, ?_⟩) ⟨lineN rfl, tk' (h (some l) none ⟨fun q e => by cases e; exact hl12, (fun q e => nomatch e)⟩)⟩
    show K (eqD (.int w) (.int 1)) _
    rw [eqD_int, decide_eq_true c1]
    exact hK
  refine guard_st S (fun K hK => ⟨rfl, rfl, ?_⟩) ⟨lineN rfl, tk' (h (some l) (some u) ⟨fun q e => by cases e; exact hl12, fun q e => by cases e; exact hu⟩)⟩
  show K (eqD (.int w) (.int 1)) _
  rw [eqD_int, decide_eq_false c1]
  exact hK
theorem element2_ok (hk : st[k]? = some (Bx ds i)) (hi : i < 700000) (h : ∀ (e : El) (j : Nat), ElIn e → j ≤ i + 6 → Q (.d (elD e)) (st.set k (Bx ds j))) : sp__law_element_2 [.c k] st Q := by
  have hlt : k < st.length := (List.getElem?_eq_some_iff.mp hk).1
  have hs : ∀ c : Cell, (st.set k c)[k]? = some c := fun c => by simp [hlt]
  have hl : ∀ c : Cell, (st.set k c).length = st.length := fun c => List.length_set
  have tk' : ∀ {v : Vl} {c : Cell}, Q v (st.set k c) → Q v ((st.set k c).take st.length) := fun {v c} q => by
    rw [← hl c]
    exact tk q
  unfold sp__law_element_2
  refine ⟨rfl, draw2_ok hk (by decide) (by omega) fun w w0 w1 => ?_⟩
  let S : M := ⟨[some (.c k), some (.d (.int w))], st.set k (Bx ds (i + 1))⟩
  dsimp only
  by_cases c0 : w < 2
  · refine ifs_t S (fun K hK => ⟨trivial, ?_⟩) ?_
    · show K (decide (w < 2)) _
      rw [decide_eq_true c0]
      exact hK
    refine frac2_ok (hs _) (by omega) fun g hg => ?_
    rw [List.set_set]
    exact ⟨lineN rfl, tk' (h (.gap g) _ hg (by omega))⟩
  refine guard_st S (fun K hK => ⟨trivial, ?_⟩) ?_
  · show K (decide (w < 2)) _
    rw [decide_eq_false c0]
    exact hK
  by_cases c2 : w < 4
  · refine ifs_t S (fun K hK => ⟨trivial, ?_⟩) ?_
    · show K (decide (w < 4)) _
      rw [decide_eq_true c2]
      exact hK
    refine frac2_ok (hs _) (by omega) fun p hp => ?_
    rw [List.set_set]
    refine ⟨lineN rfl, ?_⟩
    refine frac2_ok (hs _) (by omega) fun c hc => ?_
    rw [List.set_set]
    refine ⟨slt rfl, ?_⟩
    refine draw2_ok (hs _) (by decide) (by omega) fun b b0 b1 => ?_
    rw [List.set_set]
    obtain ⟨z, e, hz⟩ := idx2 pn_zero hc b b0 b1
    refine rIx_mk e ?_
    exact ⟨lineN rfl, tk' (h (.lens p z) _ ⟨hp, hz⟩ (by omega))⟩
  refine guard_st S (fun K hK => ⟨trivial, ?_⟩) ?_
  · show K (decide (w < 4)) _
    rw [decide_eq_false c2]
    exact hK
  by_cases c3 : w = 4
  · refine ifs_t S (fun K hK => ⟨rfl, rfl, ?_⟩) ?_
    · show K (eqD (.int w) (.int 4)) _
      rw [eqD_int, decide_eq_true c3]
      exact hK
    refine frac2_ok (hs _) (by omega) fun g hg => ?_
    rw [List.set_set]
    exact ⟨lineN rfl, tk' (h (.prism g) _ hg (by omega))⟩
  refine guard_st S (fun K hK => ⟨rfl, rfl, ?_⟩) ?_
  · show K (eqD (.int w) (.int 4)) _
    rw [eqD_int, decide_eq_false c3]
    exact hK
  by_cases c4 : w = 5
  · refine ifs_t S (fun K hK => ⟨rfl, rfl, ?_⟩) ?_
    · show K (eqD (.int w) (.int 5)) _
      rw [eqD_int, decide_eq_true c4]
      exact hK
    refine nonzero_ok (hs _) (by omega) fun g hg hn => ?_
    rw [List.set_set]
    exact ⟨lineN rfl, tk' (h (.afocal g) _ ⟨hg, hn⟩ (by omega))⟩
  refine guard_st S (fun K hK => ⟨rfl, rfl, ?_⟩) ?_
  · show K (eqD (.int w) (.int 5)) _
    rw [eqD_int, decide_eq_false c4]
    exact hK
  refine stop2_ok (hs _) (by omega) fun lo hi he => ?_
  rw [List.set_set]
  exact tk' (h (.stop lo hi) _ he (by omega))
theorem train2_ok {n : Nat} (hn : n ≤ 100) (hk : st[k]? = some (Bx ds i)) (hi : i < 100000) (h : ∀ (es : List El) (j : Nat), es.length ≤ n → (∀ e ∈ es, ElIn e) → j ≤ i + 1 + 6 * n → Q (.d (.lst (es.map elD))) (st.set k (Bx ds j))) : sp__law_train_2 [.c k, .d (.int n)] st Q := by
  have hlt : k < st.length := (List.getElem?_eq_some_iff.mp hk).1
  have hs : ∀ c : Cell, (st.set k c)[k]? = some c := fun c => by simp [hlt]
  have hl : ∀ c : Cell, (st.set k c).length = st.length := fun c => List.length_set
  have tk' : ∀ {v : Vl} {c : Cell}, Q v (st.set k c) → Q v ((st.set k c).take st.length) := fun {v c} q => by
    rw [← hl c]
    exact tk q
  unfold sp__law_train_2
  refine ⟨rfl, draw2_ok hk (by omega) (by omega) fun r r0 r1 => ?_⟩
  refine ⟨⟨by omega, by omega⟩, ?_⟩
  refine lc_inv (lk := none) elD (fun r acc st' => ∃ j, st' = st.set k (Bx ds j) ∧ acc.length + r.length ≤ n ∧ j ≤ i + 1 + 6 * acc.length ∧ ∀ e ∈ acc, ElIn e) (fun _ _ _ _ => trivial) ?_ ?_ ?_ _ [] _ ⟨i + 1, rfl, by
    rw [rangeD_len, List.length_nil]
    omega, Nat.le_refl _, fun e he => nomatch he⟩
  · rintro x r acc st' ⟨j, rfl, hlen, _, _⟩
    rw [List.length_cons] at hlen
    exact small_lt (by omega)
  · rintro x r acc st' P ⟨j, rfl, hlen, hj, ha⟩ hP
    rw [List.length_cons] at hlen
    refine element2_ok (hs _) (by omega) fun e j' he hj' => ?_
    rw [List.set_set]
    refine hP e ⟨_, _⟩ ⟨j', rfl, ?_, ?_, fun e' he' => ?_⟩
    · rw [List.length_append, List.length_singleton]
      omega
    · rw [List.length_append, List.length_singleton]
      omega
    · rcases List.mem_append.mp he' with h | h
      · exact ha e' h
      · rw [List.mem_singleton] at h
        rw [h]
        exact he
  · rintro acc st' ⟨j, rfl, hlen, hj, ha⟩
    have hal : acc.length ≤ n := by simpa using hlen
    exact tk' (h acc j hal ha (by omega))
end
end PG

set_option maxRecDepth 100000
set_option maxHeartbeats 4000000
namespace PG
open PySem PySem.Spec PyProof.Rows L2 RT
def Ez (n : Nat) : El → Prop
  | .gap g => zb g ≤ n
  | .lens p c => zb p ≤ n ∧ zb c ≤ n
  | .prism d => zb d ≤ n
  | .afocal m => zb m ≤ n ∧ m ≠ 0
  | .stop _ _ => True
section
variable {st : List Cell} {Q : Vl → List Cell → Prop}
end
end PG

set_option maxRecDepth 100000
set_option maxHeartbeats 4000000
namespace PG
open PySem PySem.Spec PyProof.Rows L2 RT
section
variable {ds : List Int} {i k : Nat} {st : List Cell} {Q : Vl → List Cell → Prop}
end
end PG

set_option maxRecDepth 100000
set_option maxHeartbeats 4000000
namespace PG
open PySem PySem.Spec PyProof.Rows L2 RT

end PG

set_option maxRecDepth 100000
set_option maxHeartbeats 4000000
namespace PG
open PySem PySem.Spec PyProof.Rows L2 RT
section
variable {st : List Cell} {Q : Vl → List Cell → Prop}
end
end PG

set_option maxRecDepth 100000
set_option maxHeartbeats 4000000
namespace PG
open PySem PySem.Spec PyProof.Rows L2 RT

structure Sx (k W : Nat) (d : Dt) : Prop where
  shw : (toPy d).showable = true
  itg : (toPy d).intsShort 250 = true
  lay : (toPy d).canLay0 = true
  dep : (toPy d).depth ≤ k
  wt : (toPy d).weight ≤ W
theorem Sx.le {k W k' W' : Nat} {d : Dt} (h : Sx k W d) (h1 : k ≤ k') (h2 : W ≤ W') : Sx k' W' d := ⟨h.shw, h.itg, h.lay, Nat.le_trans h.dep h1, Nat.le_trans h.wt h2⟩
theorem Sx.shows {k W : Nat} {d : Dt} (h : Sx k W d) (hk : k ≤ 60) (hW : W ≤ 60000) : shows d := by
  refine ⟨h.shw, Nat.le_trans h.dep hk, ?_⟩
  have h2 := PyData.shown_le 250 (by decide) (toPy d) (PyData.leavesShort_of_canLay0 250 (toPy d) h.lay h.itg)
  have := h.wt
  show (toPy d).shown.length ≤ 16777216
  omega
end PG

set_option maxRecDepth 100000
set_option maxHeartbeats 4000000

namespace PG
open PySem PySem.Spec PyProof.Rows L2 RT
section
variable {x y : Rat} {st : List Cell} {Q : Vl → List Cell → Prop}
end
section
variable {ds : List Int} {i k : Nat} {st : List Cell} {Q : Vl → List Cell → Prop}
end
section
variable {st : List Cell} {Q : Vl → List Cell → Prop}
end
end PG

set_option maxRecDepth 100000
set_option maxHeartbeats 4000000

namespace PG
open PySem PySem.Spec PyProof.Rows L2 RT
structure Pup where
  i : Nat
  d : Option Rat
  lo : Option Rat
  hi : Option Rat
section
variable {st : List Cell} {Q : Vl → List Cell → Prop}
end
end PG

set_option maxRecDepth 100000
set_option maxHeartbeats 4000000

namespace PG
open PySem PySem.Spec PyProof.Rows L2 RT
structure PupZ (n : Nat) (p : Pup) : Prop where
  d : Zo n p.d
  lo : Zo n p.lo
  hi : Zo n p.hi
section
variable {st : List Cell} {Q : Vl → List Cell → Prop}
end
end PG

set_option maxRecDepth 100000
set_option maxHeartbeats 4000000
namespace PG
open PySem PySem.Spec PyProof.Rows L2 RT

end PG

set_option maxRecDepth 100000
set_option maxHeartbeats 4000000

namespace PG
open PySem PySem.Spec PyProof.Rows L2 RT
abbrev Rng := Option (Option Rat × Option Rat)
def inR (lo hi : Option Rat) (x : Rat) : Prop := (∀ l, lo = some l → l ≤ x) ∧ (∀ u, hi = some u → x ≤ u)
def IsRng (S : Rat → Prop) : Rng → Prop
  | none => ∀ x, ¬ S x
  | some o => (∀ x, S x ↔ inR o.1 o.2 x) ∧ ∃ x, S x
theorem IsRng.congr {S T : Rat → Prop} (h : ∀ x, S x ↔ T x) : ∀ {o : Rng}, IsRng S o → IsRng T o
  | none, hs => fun x hx => hs x ((h x).mpr hx)
  | some o, hs => ⟨fun x => (h x).symm.trans (hs.1 x), hs.2.elim fun x hx => ⟨x, (h x).mp hx⟩⟩

end PG

set_option maxRecDepth 100000
set_option maxHeartbeats 4000000
namespace PG
open PySem PySem.Spec PyProof.Rows L2 RT

abbrev Wy := Int × Int
def free (hs : List Hp3) (w : Wy) : Bool := (!decide (w.1 = 0) || !decide (w.2 = 0)) && hs.all fun g => decide (g.p * w.1 + g.q * w.2 ≤ 0)
end PG

set_option maxRecDepth 100000
set_option maxHeartbeats 4000000
namespace PG
open PySem PySem.Spec PyProof.Rows L2 RT
end PG

set_option maxRecDepth 100000
set_option maxHeartbeats 4000000
namespace PG
open PySem PySem.Spec PyProof.Rows L2 RT
theorem HZ.zb {n : Nat} {g : Hp3} (h : HZ n g) : zb (g.p : Rat) ≤ n ∧ zb (g.q : Rat) ≤ n ∧ zb (g.r : Rat) ≤ n := by
  obtain ⟨a, b, c⟩ := h
  have := zb_int g.p
  have := zb_int g.q
  have := zb_int g.r
  omega
section
variable {st : List Cell} {Q : Vl → List Cell → Prop} {hs : List Hp3} {n : Nat} {g k : Hp3} {p q : Rat}
end
end PG

set_option maxRecDepth 100000
set_option maxHeartbeats 4000000

namespace PG
open PySem PySem.Spec PyProof.Rows L2 RT
section
variable {st : List Cell} {a b c x : Cell} {l : List Cell}
theorem at0 : (st ++ a :: l)[st.length]? = some a := by simp
theorem set0 : (st ++ a :: l).set st.length x = st ++ x :: l := by simp [List.set_append_right]
end
section
variable {st : List Cell} {Q : Vl → List Cell → Prop}
end
end PG

set_option maxRecDepth 100000
set_option maxHeartbeats 4000000
namespace PG
open PySem PySem.Spec PyProof.Rows L2 RT
theorem ifs_t' {c : DT} {t : DS} {b : DS} {E : DEnds} {m : M} (m' : M) (hc : ∀ K : Bool → M → Prop, K true m' → c m K) (h : t ⟨b E, E.rt, E.bk, E.ct⟩ m') : dSeq (dIfS c t dNext) b E m := hc _ h
section
variable {st : List Cell} {Q : Vl → List Cell → Prop}
end
end PG

set_option maxRecDepth 100000
set_option maxHeartbeats 4000000
namespace PG
open PySem PySem.Spec PyProof.Rows L2 RT
end PG

set_option maxRecDepth 100000
set_option maxHeartbeats 4000000

namespace PG
open PySem PySem.Spec PyProof.Rows L2 RT
def B7 : Nat := 6 * 13 ^ 7 + 12
end PG

set_option maxRecDepth 100000
set_option maxHeartbeats 4000000

namespace PG
open PySem PySem.Spec PyProof.Rows L2 RT
section
variable {st : List Cell} {Q : Vl → List Cell → Prop}
end
end PG

set_option maxRecDepth 100000
set_option maxHeartbeats 4000000

namespace PG
open PySem PySem.Spec PyProof.Rows L2 RT
section
variable {st : List Cell} {Q : Vl → List Cell → Prop}
end
end PG

set_option maxRecDepth 100000
set_option maxHeartbeats 4000000

namespace PG
open PySem PySem.Spec PyProof.Rows L2 RT
abbrev EP := Ed × Hp3
section
variable {st : List Cell} {Q : Vl → List Cell → Prop}
end
end PG

set_option maxRecDepth 100000
set_option maxHeartbeats 4000000
namespace PG
open PySem PySem.Spec PyProof.Rows L2 RT
theorem sx_int2 {i : Int} (h : i.natAbs.log2 ≤ 1900) : (toPy (.int i)).showable = true ∧ (toPy (.int i)).intsShort 600 = true ∧ (toPy (.int i)).weight ≤ 1901 := by
  have hlt : i.natAbs < 10 ^ 599 := by
    by_cases h0 : i.natAbs = 0
    · rw [h0]
      decide
    · have := (Nat.log2_lt h0 (k := 1901)).mp (by omega)
      exact Nat.lt_of_lt_of_le this (by decide +kernel)
  refine ⟨?_, ?_, ?_⟩
  · simp only [toPy, PyData.showable, decide_eq_true_eq]
    omega
  · simp only [toPy, PyData.intsShort, decide_eq_true_eq]
    have e := int_text_length_le10 (k := 599) (by decide) hlt
    show (Str.ofString (toString i)).length ≤ 600
    rw [PySem.ofString_length]
    exact e
  · simp only [toPy, PyData.weight]
    split <;> omega
structure Sl (k W : Nat) (d : Dt) : Prop where
  shw : (toPy d).showable = true
  itg : (toPy d).intsShort 600 = true
  lay : (toPy d).canLay0 = true
  dep : (toPy d).depth ≤ k
  wt : (toPy d).weight ≤ W
theorem Sl.le {k W k' W' : Nat} {d : Dt} (h : Sl k W d) (h1 : k ≤ k') (h2 : W ≤ W') : Sl k' W' d := ⟨h.shw, h.itg, h.lay, Nat.le_trans h.dep h1, Nat.le_trans h.wt h2⟩
theorem Sl.shows {k W : Nat} {d : Dt} (h : Sl k W d) (hk : k ≤ 60) (hW : W ≤ 20000) : shows d := by
  refine ⟨h.shw, Nat.le_trans h.dep hk, ?_⟩
  have h2 := PyData.shown_le 600 (by decide) (toPy d) (PyData.leavesShort_of_canLay0 600 (toPy d) h.lay h.itg)
  have := h.wt
  show (toPy d).shown.length ≤ 16777216
  omega

section
variable {st : List Cell} {Q : Vl → List Cell → Prop}
end
end PG

set_option maxRecDepth 100000
set_option maxHeartbeats 4000000
namespace PG
open PySem PySem.Spec PyProof.Rows L2 RT

end PG

set_option maxRecDepth 100000
set_option maxHeartbeats 4000000
namespace PG
open PySem PySem.Spec PyProof.Rows L2 RT
def wD (w : Wy) : Dt := .tup [.int w.1, .int w.2]
section
variable {st : List Cell} {Q : Vl → List Cell → Prop} {hs : List Hp3} {n : Nat} {g : Hp3} {x : Ray}
end
end PG

set_option maxRecDepth 100000
set_option maxHeartbeats 4000000
namespace PG
open PySem PySem.Spec PyProof.Rows L2 RT
end PG

set_option maxRecDepth 100000
set_option maxHeartbeats 4000000
namespace PG
open PySem PySem.Spec PyProof.Rows L2 RT
theorem n10 : ¬ ((1 : Rat) = 0 ∧ (0 : Rat) = 0) := fun h => absurd h.1 (by decide)
end PG

set_option maxRecDepth 100000
set_option maxHeartbeats 4000000

namespace PG
open PySem PySem.Spec PyProof.Rows L2 RT

end PG

set_option maxRecDepth 100000
set_option maxHeartbeats 4000000

namespace PG
open PySem PySem.Spec PyProof.Rows L2 RT
section
variable {st : List Cell} {Q : Vl → List Cell → Prop}
end
end PG

set_option maxRecDepth 100000
set_option maxHeartbeats 4000000
namespace PG
open PySem PySem.Spec PyProof.Rows L2 RT
section
variable {st : List Cell} {Q : Vl → List Cell → Prop}
end
end PG

set_option maxRecDepth 100000
set_option maxHeartbeats 4000000

namespace PG
open PySem PySem.Spec PyProof.Rows L2 RT
section
variable {st : List Cell} {Q : Vl → List Cell → Prop}
end
end PG

set_option maxRecDepth 100000
set_option maxHeartbeats 4000000
namespace PG
open PySem PySem.Spec PyProof.Rows L2 RT
section
variable {st : List Cell} {Q : Vl → List Cell → Prop}
end
end PG

set_option maxRecDepth 100000
set_option maxHeartbeats 4000000
namespace PG
open PySem PySem.Spec PyProof.Rows L2 RT
structure Lg (k L : Nat) (d : Dt) : Prop where
  shw : (toPy d).showable = true
  dep : (toPy d).depth ≤ k
  len : (toPy d).shown.length ≤ L
theorem Lg.le {k L k' L' : Nat} {d : Dt} (h : Lg k L d) (h1 : k ≤ k') (h2 : L ≤ L') : Lg k' L' d := ⟨h.shw, Nat.le_trans h.dep h1, Nat.le_trans h.len h2⟩
theorem lg_int {i : Int} (h : i.natAbs.log2 ≤ 1900) : Lg 0 600 (.int i) := by
  obtain ⟨a, b, _⟩ := sx_int2 h
  refine ⟨a, Nat.le_refl _, ?_⟩
  simp only [toPy, PyData.intsShort, decide_eq_true_eq] at b
  exact b
theorem lg_all {k L : Nat} : ∀ {ds : List Dt}, (∀ d ∈ ds, Lg k L d) → PyData.showableAll (toPys ds) = true ∧ PyData.depthAll (toPys ds) ≤ k ∧ ((PyData.shownAll (toPys ds)).map (·.length)).sum ≤ ds.length * L ∧ (PyData.shownAll (toPys ds)).length = ds.length
  | [], _ => by simp [toPys, PyData.showableAll, PyData.depthAll, PyData.shownAll]
  | d :: ds, h => by
    obtain ⟨a1, a2, a3⟩ := h d List.mem_cons_self
    obtain ⟨b1, b2, b3, b4⟩ := lg_all fun e he => h e (List.mem_cons_of_mem d he)
    refine ⟨?_, depths fun e he => (h e he).dep, ?_, ?_⟩
    · simp only [toPys, PyData.showableAll, a1, b1, Bool.and_self]
    · simp only [toPys, PyData.shownAll, List.map_cons, List.sum_cons, List.length_cons, Nat.succ_mul]
      omega
    · simp only [toPys, PyData.shownAll, List.length_cons, b4]
theorem lg_lst {k L : Nat} {ds : List Dt} (h : ∀ d ∈ ds, Lg k L d) : Lg (k + 1) (ds.length * (L + 2) + 3) (.lst ds) := by
  obtain ⟨b1, b2, b3, b4⟩ := lg_all h
  refine ⟨?_, ?_, ?_⟩
  · simp only [toPy, PyData.showable]
    exact b1
  · simp only [toPy, PyData.depth]
    omega
  · have h2 := listText_len_le (PyData.shownAll (toPys ds))
    simp only [toPy, PyData.shown]
    rw [Nat.mul_add]
    omega
theorem lg_tup {k L : Nat} {ds : List Dt} (h : ∀ d ∈ ds, Lg k L d) : Lg (k + 1) (ds.length * (L + 2) + 3) (.tup ds) := by
  obtain ⟨b1, b2, b3, b4⟩ := lg_all h
  refine ⟨?_, ?_, ?_⟩
  · simp only [toPy, PyData.showable]
    exact b1
  · simp only [toPy, PyData.depth]
    omega
  · have h2 := tupleText_len_le (PyData.shownAll (toPys ds))
    simp only [toPy, PyData.shown]
    rw [Nat.mul_add]
    omega
theorem Lg.shows {k L : Nat} {d : Dt} (h : Lg k L d) (hk : k ≤ 60) (hL : L ≤ 16000000) : shows d := by
  refine ⟨h.shw, Nat.le_trans h.dep hk, ?_⟩
  have := h.len
  show (toPy d).shown.length ≤ 16777216
  omega
theorem lg_fr {q : Rat} (h : zb q ≤ 1900) : Lg 1 1207 (fr q) := by
  have a := zb_num q
  have b := zb_den q
  exact lg_tup (ds := [.int q.num, .int q.den]) (all_cons (lg_int (by omega)) (all_cons (lg_int (by rw [Int.natAbs_natCast]; omega)) all_nil))
theorem lg_non : Lg 0 600 .non := ⟨rfl, Nat.le_refl _, by show (PyData.shown .none).length ≤ 600; decide⟩
theorem lg_ofr {o : Option Rat} (h : Zo 1900 o) : Lg 1 1207 (ofr o) := by
  cases o with
  | none => exact lg_non.le (by decide) (by decide)
  | some q => exact lg_fr (h q rfl)
section
variable {ds : List Int} {i k : Nat} {st : List Cell} {Q : Vl → List Cell → Prop}
end
section
variable {st : List Cell} {Q : Vl → List Cell → Prop}
end
end PG

set_option maxRecDepth 100000
set_option maxHeartbeats 4000000

namespace PG
open PySem PySem.Spec PyProof.Rows L2 RT
section
variable {st : List Cell} {Q : Vl → List Cell → Prop}
end
end PG

set_option maxRecDepth 100000
set_option maxHeartbeats 4000000
namespace PG
open PySem PySem.Spec PyProof.Rows L2 RT
section
variable {st : List Cell} {Q : Vl → List Cell → Prop} {hs : List Hp3} {n : Nat} {g : Hp3} {x : Ray}
end
end PG

set_option maxRecDepth 100000
set_option maxHeartbeats 4000000
namespace PG
open PySem PySem.Spec PyProof.Rows L2 RT

end PG

set_option maxRecDepth 100000
set_option maxHeartbeats 4000000
namespace PG
open PySem PySem.Spec PyProof.Rows L2 RT

end PG

set_option maxRecDepth 100000
set_option maxHeartbeats 4000000
namespace PG
open PySem PySem.Spec PyProof.Rows L2 RT
section
variable {ds : List Int} {i k : Nat} {st : List Cell} {Q : Vl → List Cell → Prop} {hs : List Hp3}
end
end PG

set_option maxRecDepth 100000
set_option maxHeartbeats 4000000

namespace PG
open PySem PySem.Spec PyProof.Rows L2 RT
section
variable {st : List Cell} {Q : Vl → List Cell → Prop}
end
end PG

set_option maxRecDepth 100000
set_option maxHeartbeats 4000000

namespace PG
open PySem PySem.Spec PyProof.Rows L2 RT
section
variable {st : List Cell} {Q : Vl → List Cell → Prop}

end
end PG

set_option maxRecDepth 100000
set_option maxHeartbeats 4000000

namespace PG
open PySem PySem.Spec PyProof.Rows L2 RT
end PG

set_option maxRecDepth 100000
set_option maxHeartbeats 4000000
namespace PG
open PySem PySem.Spec PyProof.Rows L2 RT
section
variable {st : List Cell} {Q : Vl → List Cell → Prop}
end
end PG

set_option maxRecDepth 100000
set_option maxHeartbeats 4000000

namespace PG
open PySem PySem.Spec PyProof.Rows L2 RT
section
variable {st : List Cell} {Q : Vl → List Cell → Prop}
end

end PG

set_option maxRecDepth 100000
set_option maxHeartbeats 4000000

namespace PG
open PySem PySem.Spec PyProof.Rows L2 RT
end PG

set_option maxRecDepth 100000
set_option maxHeartbeats 4000000

namespace PG
open PySem PySem.Spec PyProof.Rows L2 RT
section
variable {st : List Cell} {Q : Vl → List Cell → Prop} {hs : List Hp3} {a : Hp3} {n : Nat}
end
end PG

set_option maxRecDepth 100000
set_option maxHeartbeats 4000000
namespace PG
open PySem PySem.Spec PyProof.Rows L2 RT
section
variable {st : List Cell} {Q : Vl → List Cell → Prop} {hs : List Hp3} {n : Nat} {g : Hp3}
end
end PG

set_option maxRecDepth 100000
set_option maxHeartbeats 4000000
namespace PG
open PySem PySem.Spec PyProof.Rows L2 RT
section
variable {st : List Cell} {Q : Vl → List Cell → Prop} {hs : List Hp3} {n : Nat} {g : Hp3}
end
end PG

set_option maxRecDepth 100000
set_option maxHeartbeats 4000000

namespace PG
open PySem PySem.Spec PyProof.Rows L2 RT
section
variable {st : List Cell} {Q : Vl → List Cell → Prop} {hs : List Hp3} {a g k : Hp3} {n : Nat}
end
end PG

set_option maxRecDepth 100000
set_option maxHeartbeats 4000000

namespace PG
open PySem PySem.Spec PyProof.Rows L2 RT
section
variable {st : List Cell} {Q : Vl → List Cell → Prop} {hs : List Hp3} {a : Hp3}
end

end PG

set_option maxRecDepth 100000
set_option maxHeartbeats 4000000

namespace PG
open PySem PySem.Spec PyProof.Rows L2 RT
def ElW : El → Prop
  | .gap g => In 12 12 g
  | e => ElIn e
theorem ElIn.w {e : El} (h : ElIn e) : ElW e := by
  cases e with
  | gap g => exact in_le (by decide) (Pn.in_ h)
  | lens p c => exact h
  | prism d => exact h
  | afocal m => exact h
  | stop lo hi => exact h
theorem ElW.z {e : El} (h : ElW e) : ElZ 12 e := by
  cases e with
  | gap g =>
    have := in_zb (b := 8) (by decide) h (by decide) (by decide) (by decide)
    show zb g ≤ 12
    omega
  | lens p c => exact ⟨Nat.le_trans (ElIn.z (e := .lens p c) h).1 (by decide), Nat.le_trans (ElIn.z (e := .lens p c) h).2 (by decide)⟩
  | prism d => exact Nat.le_trans (ElIn.z (e := .prism d) h) (by decide)
  | afocal m => exact ⟨Nat.le_trans (ElIn.z (e := .afocal m) h).1 (by decide), (ElIn.z (e := .afocal m) h).2⟩
  | stop lo hi => exact ⟨fun q e => Nat.le_trans ((ElIn.z (e := .stop lo hi) h).1 q e) (by decide), fun q e => Nat.le_trans ((ElIn.z (e := .stop lo hi) h).2 q e) (by decide)⟩
theorem ElZ.ok {n : Nat} {e : El} (h : ElZ n e) : ElOk e := by
  cases e with
  | afocal m => exact h.2
  | gap g => trivial
  | lens p c => trivial
  | prism d => trivial
  | stop lo hi => trivial
theorem ElZ.le {n k : Nat} {e : El} (h : ElZ n e) (hk : n ≤ k) : ElZ k e := by
  cases e with
  | afocal m => exact ⟨Nat.le_trans h.1 hk, h.2⟩
  | gap g => exact Nat.le_trans h hk
  | lens p c => exact ⟨Nat.le_trans h.1 hk, Nat.le_trans h.2 hk⟩
  | prism d => exact Nat.le_trans h hk
  | stop lo hi => exact ⟨fun q e => Nat.le_trans (h.1 q e) hk, fun q e => Nat.le_trans (h.2 q e) hk⟩
theorem ElZ.ez {n : Nat} {e : El} (h : ElZ n e) : Ez n e := by
  cases e with
  | afocal m => exact h
  | gap g => exact h
  | lens p c => exact h
  | prism d => exact h
  | stop lo hi => trivial

structure Tz (N : Nat) (es : List El) : Prop where
  el : ∀ e ∈ es, ElZ N e
  pre : ∀ k, MZ N (transfer (es.take k))
theorem Tz.ok {N : Nat} {es : List El} (T : Tz N es) : ∀ e ∈ es, ElOk e := fun e he => (T.el e he).ok
theorem Tz.le {N K : Nat} {es : List El} (T : Tz N es) (h : N ≤ K) : Tz K es := ⟨fun e he => (T.el e he).le h, fun k => (T.pre k).le h⟩
theorem Tz.all {N : Nat} {es : List El} (T : Tz N es) : MZ N (transfer es) := by
  have := T.pre es.length
  rw [List.take_length] at this
  exact this
theorem Tz.tk {N : Nat} {es : List El} (T : Tz N es) (j : Nat) : Tz N (es.take j) := ⟨fun e he => T.el e (List.mem_of_mem_take he), fun k => by rw [List.take_take]; exact T.pre _⟩
theorem Tz.dt {N : Nat} {es done rest : List El} (T : Tz N es) (e : es = done ++ rest) : det (transfer done) = 1 := det_transfer fun x hx => T.ok x (by rw [e]; exact List.mem_append_left _ hx)
section
variable {st : List Cell} {Q : Vl → List Cell → Prop}

end
end PG

set_option maxRecDepth 100000
set_option maxHeartbeats 4000000

namespace PG
open PySem PySem.Spec PyProof.Rows L2 RT
section
variable {st : List Cell} {Q : Vl → List Cell → Prop}
end
end PG

set_option maxRecDepth 100000
set_option maxHeartbeats 4000000

namespace PG
open PySem PySem.Spec PyProof.Rows L2 RT
section
variable {st : List Cell} {Q : Vl → List Cell → Prop}
end
end PG

set_option maxRecDepth 100000
set_option maxHeartbeats 4000000

namespace PG
open PySem PySem.Spec PyProof.Rows L2 RT
section
variable {st : List Cell} {Q : Vl → List Cell → Prop}
end
end PG

set_option maxRecDepth 100000
set_option maxHeartbeats 4000000

namespace PG
open PySem PySem.Spec PyProof.Rows L2 RT
abbrev CE := Ed × Rat × Mp
structure CeIn (N : Nat) (es : List El) (x : CE) : Prop where
  lt : x.1.1 < es.length
  mp : x.2.2 = transfer (es.take x.1.1)
  mz : MZ N x.2.2
  hz : zb x.2.1 ≤ N

section
variable {st : List Cell} {Q : Vl → List Cell → Prop}
end
end PG

set_option maxRecDepth 100000
set_option maxHeartbeats 4000000

namespace PG
open PySem PySem.Spec PyProof.Rows L2 RT
section
variable {ds : List Int} {i k : Nat} {st : List Cell} {Q : Vl → List Cell → Prop}
end
section
variable {st : List Cell} {Q : Vl → List Cell → Prop}
end
end PG

set_option maxRecDepth 100000
set_option maxHeartbeats 4000000

namespace PG
open PySem PySem.Spec PyProof.Rows L2 RT
theorem lg_tag (e : El) : Lg 0 600 (.str (tag e)) := by
  have g1 : (toPy (Dt.str ("gap" : Str))).shown.length ≤ 600 := by decide +kernel
  have g2 : (toPy (Dt.str ("lens" : Str))).shown.length ≤ 600 := by decide +kernel
  have g3 : (toPy (Dt.str ("prism" : Str))).shown.length ≤ 600 := by decide +kernel
  have g4 : (toPy (Dt.str ("afocal" : Str))).shown.length ≤ 600 := by decide +kernel
  have g5 : (toPy (Dt.str ("stop" : Str))).shown.length ≤ 600 := by decide +kernel
  cases e with
  | gap g => exact ⟨rfl, Nat.le_refl _, g1⟩
  | lens p c => exact ⟨rfl, Nat.le_refl _, g2⟩
  | prism g => exact ⟨rfl, Nat.le_refl _, g3⟩
  | afocal g => exact ⟨rfl, Nat.le_refl _, g4⟩
  | stop lo hi => exact ⟨rfl, Nat.le_refl _, g5⟩
theorem lg_el {e : El} (h : ElZ 1900 e) : Lg 2 4000 (elD e) := by
  have tg := (lg_tag e).le (k' := 1) (L' := 1207) (by decide) (by decide)
  cases e with
  | gap g => exact (lg_tup (ds := [.str ("gap" : Str), fr g]) (all_cons tg (all_cons (lg_fr h) all_nil))).le (Nat.le_refl _) (Nat.le_of_ble_eq_true rfl)
  | lens p c => exact (lg_tup (ds := [.str ("lens" : Str), fr p, fr c]) (all_cons tg (all_cons (lg_fr h.1) (all_cons (lg_fr h.2) all_nil)))).le (Nat.le_refl _) (Nat.le_of_ble_eq_true rfl)
  | prism g => exact (lg_tup (ds := [.str ("prism" : Str), fr g]) (all_cons tg (all_cons (lg_fr h) all_nil))).le (Nat.le_refl _) (Nat.le_of_ble_eq_true rfl)
  | afocal g => exact (lg_tup (ds := [.str ("afocal" : Str), fr g]) (all_cons tg (all_cons (lg_fr h.1) all_nil))).le (Nat.le_refl _) (Nat.le_of_ble_eq_true rfl)
  | stop lo hi => exact (lg_tup (ds := [.str ("stop" : Str), ofr lo, ofr hi]) (all_cons tg (all_cons (lg_ofr h.1) (all_cons (lg_ofr h.2) all_nil)))).le (Nat.le_refl _) (Nat.le_of_ble_eq_true rfl)
end PG

set_option maxRecDepth 100000
set_option maxHeartbeats 4000000

namespace PG
open PySem PySem.Spec PyProof.Rows L2 RT
namespace X
abbrev Sx (l : List Nat) : Str := SX.S l
def wD (w : List Nat) : Dt := .str (Sx w)
theorem signs_Sx (l : List Nat) : RT.signs (Sx l) = l.map fun c => wD [c] := by
  unfold RT.signs Sx SX.S
  rfl
def Asc (l : List Nat) : Prop := ∀ c ∈ l, c < 128
def tokR : List Nat → List (List Nat) → List Nat → List (List Nat)
  | [], acc, _ => acc
  | c :: r, acc, w => if c = 32 ∨ c = 59 then tokR r ((acc ++ if w = [] then [] else [w]) ++ if c = 59 then [[59]] else []) [] else tokR r acc (w ++ [c])
def toksF (l : List Nat) : List (List Nat) := tokR (l ++ [32]) [] []
section
variable {st : List Cell} {Q : Vl → List Cell → Prop}
end
end X
end PG

set_option maxRecDepth 100000
set_option maxHeartbeats 4000000

namespace PG
open PySem PySem.Spec PyProof.Rows L2 RT
namespace X
def isDig (c : Nat) : Bool := decide (48 ≤ c) && decide (c ≤ 57)
def badN (l : List Nat) : Bool := decide (l = []) || (decide (7 < l.length) || (decide (l.head? = some 48) || !l.all isDig))
def natF (l : List Nat) : Option Nat := if badN l = true then none else if 1000000 < NumText.digitsVal l then none else some (NumText.digitsVal l)
section
variable {st : List Cell} {Q : Vl → List Cell → Prop}
end
end X
end PG

set_option maxRecDepth 100000
set_option maxHeartbeats 4000000

namespace PG
open PySem PySem.Spec PyProof.Rows L2 RT
namespace X
def partsF (l : List Nat) : List (List Nat) := TL.spl [47] 0 [] (if l.take 1 = [45] then l.drop 1 else l)
def sgF (l : List Nat) (n : Nat) : Int := if l.take 1 = [45] then -(n : Int) else (n : Int)
def numsF (l : List Nat) : List (List Nat) → Option Rat
  | [p] => match natF p with
    | some n => some (Rat.divInt (sgF l n) 1)
    | none => none
  | [p, q] => match natF p, natF q with
    | some n, some d => some (Rat.divInt (sgF l n) (d : Int))
    | _, _ => none
  | _ => none
def fracF (l : List Nat) : Option Rat := if l = [48] then some 0 else numsF l (partsF l)
section
variable {st : List Cell} {Q : Vl → List Cell → Prop}
end
end X
end PG

set_option maxRecDepth 100000
set_option maxHeartbeats 4000000

namespace PG
open PySem PySem.Spec PyProof.Rows L2 RT
namespace S

def rc (es : List El) (i k : Nat) (p : Rat) : Rat := if k < i then 0 else if k = i then -1 else (transfer ((es.take k).drop (i + 1))).b * p
end S
end PG

set_option maxRecDepth 100000
set_option maxHeartbeats 4000000

namespace PG
open PySem PySem.Spec PyProof.Rows L2 RT
namespace S

end S
end PG

set_option maxRecDepth 100000
set_option maxHeartbeats 4000000

namespace PG
open PySem PySem.Spec PyProof.Rows L2 RT
namespace S
section
variable {st : List Cell} {os : RT.OS} {QO : Vl → List Cell → RT.OS → Prop} {Ex : EXS} {Q : Vl → List Cell → Prop}
theorem xguard {ct : RT.OS → DT} {a rest : DSO} {Ex : EXO} {E : DOEnds} {m : M} (m' : M) (hc : ∀ K : Bool → M → Prop, K false m' → ct os m K) (h : rest Ex E m' os) : xSeq (xIf (xT ct) a xNext) rest Ex E m os := hc _ (by
  dsimp only
  rw [if_neg Bool.false_ne_true]
  exact h)
theorem xthen {ct : RT.OS → DT} {a b rest : DSO} {Ex : EXO} {E : DOEnds} {m : M} (m' : M) (hc : ∀ K : Bool → M → Prop, K true m' → ct os m K) (h : a Ex ⟨fun m1 os1 => rest Ex E m1 os1, E.rt, E.bk, E.ct⟩ m' os) : xSeq (xIf (xT ct) a b) rest Ex E m os := hc _ (by
  dsimp only
  rw [if_pos rfl]
  exact h)
def nmE : El → Str
  | .gap _ => "gap"
  | .lens _ _ => "lens"
  | .prism _ => "prism"
  | .afocal _ => "afocal"
  | .stop _ _ => "stop"
end
end S
end PG

set_option maxRecDepth 100000
set_option maxHeartbeats 4000000

namespace PG
open PySem PySem.Spec PyProof.Rows L2 RT
namespace S
section
variable {st : List Cell} {Q : Vl → List Cell → Prop}
end
end S
end PG

set_option maxRecDepth 100000
set_option maxHeartbeats 4000000

namespace PG
open PySem PySem.Spec PyProof.Rows L2 RT
namespace S
theorem xseq_mid {os : RT.OS} {t : RT.OS → DS} {rest : DSO} {Ex : EXO} {E : DOEnds} {m : M} (P : M → Prop) (h1 : ∀ K : M → Prop, (∀ m', P m' → K m') → t os ⟨K, fun v m' => E.rt v m' os, fun m' => E.bk m' os, fun m' => E.ct m' os⟩ m) (h2 : ∀ m', P m' → rest Ex E m' os) : xSeq (xS t) rest Ex E m os := h1 _ h2
section
variable {st : List Cell} {Q : Vl → List Cell → Prop}
end
end S
end PG

set_option maxRecDepth 100000
set_option maxHeartbeats 4000000

namespace PG
open PySem PySem.Spec PyProof.Rows L2 RT
namespace S
section
variable {st : List Cell} {Q : Vl → List Cell → Prop}
theorem onV_dm {m : M} {x : Dt} {P : Dt → Prop} (h : P x) : onV m (.d x) P := h
end
end S
end PG

set_option maxRecDepth 100000
set_option maxHeartbeats 4000000

namespace PG
open PySem PySem.Spec PyProof.Rows L2 RT
namespace S
section
variable {st : List Cell} {Q : Vl → List Cell → Prop}
end
end S
end PG

set_option maxRecDepth 100000
set_option maxHeartbeats 4000000

namespace PG
namespace B
open PySem PySem.Spec PyProof.Rows L2 RT
def Pg (g : Hp3) : Prop := Dir g ∧ gcd3 g.p g.q g.r = 1 ∧ HZ 1900 g
theorem Pg.z {g : Hp3} (h : Pg g) : HZ 1900 g := h.2.2
theorem Pg.ab {g : Hp3} (h : Pg g) : g.p.natAbs.log2 ≤ 2000 ∧ g.q.natAbs.log2 ≤ 2000 ∧ g.r.natAbs.log2 ≤ 2000 ∧ 0 < n1 g ∧ (n1 g).natAbs.log2 ≤ 2000 := by
  have := n1_pos h.1
  have := lgn1 h.z
  obtain ⟨_, _, a, b, c⟩ := h
  omega
section
variable {st : List Cell} {Q : Vl → List Cell → Prop} {g k : Hp3}
end
end B
end PG

set_option maxRecDepth 100000
set_option maxHeartbeats 4000000

namespace PG
namespace B
open PySem PySem.Spec PyProof.Rows L2 RT
end B
end PG

set_option maxRecDepth 100000
set_option maxHeartbeats 4000000

namespace PG
namespace B
open PySem PySem.Spec PyProof.Rows L2 RT
theorem HZ.le {n m : Nat} {g : Hp3} (h : HZ n g) (hm : n ≤ m) : HZ m g := ⟨by have := h.1; omega, by have := h.2.1; omega, by have := h.2.2; omega⟩

end B
end PG

set_option maxRecDepth 100000
set_option maxHeartbeats 4000000

namespace PG
namespace B
open PySem PySem.Spec PyProof.Rows L2 RT

def agree (m n : Mp) (x : Ray) : Prop := appM m x = appM n x

def Alike (a : List Hp3) (m : Mp) (b : List Hp3) (n : Mp) : Prop := (∀ x, Rg a x ↔ Rg b x) ∧ ∀ x, Rg a x → agree m n x
theorem Alike.symm {a b : List Hp3} {m n : Mp} (h : Alike a m b n) : Alike b n a m := ⟨fun x => (h.1 x).symm, fun x hx => (h.2 x ((h.1 x).mpr hx)).symm⟩

end B
end PG

set_option maxRecDepth 100000
set_option maxHeartbeats 4000000

namespace PG
namespace B
open PySem PySem.Spec PyProof.Rows L2 RT
section
variable {st : List Cell} {Q : Vl → List Cell → Prop}
def plT (es : List El) : List Hp3 := (planesOf 0 idM es).map (·.2)
structure Tp (N n : Nat) (es : List El) : Prop where
  tz : Tz N es
  len : es.length ≤ 200
  hz : ∀ g ∈ plT es, HZ n g
  ln : (plT es).length ≤ 40

end
end B
end PG

set_option maxRecDepth 100000
set_option maxHeartbeats 4000000

namespace PG
namespace B
open PySem PySem.Spec PyProof.Rows L2 RT
section
variable {st : List Cell} {Q : Vl → List Cell → Prop}
end
end B
end PG

set_option maxRecDepth 100000
set_option maxHeartbeats 4000000

namespace PG
namespace B
open PySem PySem.Spec PyProof.Rows L2 RT
section
variable {ds : List Int} {i k : Nat} {st : List Cell} {Q : Vl → List Cell → Prop}
end
end B
end PG

set_option maxRecDepth 100000
set_option maxHeartbeats 4000000

namespace PG
namespace B
open PySem PySem.Spec PyProof.Rows L2 RT
theorem lg_bl (b : Bool) : Lg 0 600 (.bl b) := by
  have t : (toPy (.bl true)).shown.length ≤ 600 := by decide +kernel
  have f : (toPy (.bl false)).shown.length ≤ 600 := by decide +kernel
  cases b
  · exact ⟨rfl, Nat.le_refl _, f⟩
  · exact ⟨rfl, Nat.le_refl _, t⟩
theorem Tp.le {N n K k : Nat} {es : List El} (T : Tp N n es) (h : N ≤ K) (h' : n ≤ k) : Tp K k es := ⟨T.tz.le h, T.len, fun g hg => HZ.le (T.hz g hg) h', T.ln⟩
end B
end PG

set_option maxRecDepth 100000
set_option maxHeartbeats 4000000

namespace PG
namespace B
open PySem PySem.Spec PyProof.Rows L2 RT

end B
end PG

set_option maxRecDepth 100000
set_option maxHeartbeats 4000000

namespace PG
namespace B
open PySem PySem.Spec PyProof.Rows L2 RT
structure Pd (M : Nat) (D : Int) (p q e : Rat) : Prop where
  dz : D ≠ 0
  db : D.natAbs.log2 + 2 ≤ M
  pi : ∃ P : Int, p * D = P ∧ P.natAbs.log2 + 2 ≤ M
  qi : ∃ P : Int, q * D = P ∧ P.natAbs.log2 + 2 ≤ M
  ei : ∃ P : Int, e * D = P ∧ P.natAbs.log2 + 2 ≤ M
structure Md (M : Nat) (m n : Mp) : Prop where
  one : ∃ D, Pd M D (m.a - n.a) (m.b - n.b) (m.e - n.e)
  two : ∃ D, Pd M D (m.c - n.c) (m.d - n.d) (m.f - n.f)
end B
end PG

set_option maxRecDepth 100000
set_option maxHeartbeats 4000000

namespace PG
namespace B
open PySem PySem.Spec PyProof.Rows L2 RT
section
variable {st : List Cell} {Q : Vl → List Cell → Prop}
end
end B
end PG

set_option maxRecDepth 100000
set_option maxHeartbeats 4000000

namespace PG
namespace B
open PySem PySem.Spec PyProof.Rows L2 RT
section
variable {st : List Cell} {Q : Vl → List Cell → Prop}
end
end B
end PG

set_option maxRecDepth 100000
set_option maxHeartbeats 4000000

namespace PG
open PySem PySem.Spec PyProof.Rows L2 RT
namespace S
section
variable {st : List Cell} {Q : Vl → List Cell → Prop}
end
end S
end PG

set_option maxRecDepth 100000
set_option maxHeartbeats 4000000

namespace PG
open PySem PySem.Spec PyProof.Rows L2 RT
namespace S
section
variable {st : List Cell} {Q : Vl → List Cell → Prop}
end
end S
end PG

set_option maxRecDepth 100000
set_option maxHeartbeats 4000000

namespace PG
open PySem PySem.Spec PyProof.Rows L2 RT
namespace S
section
variable {ds : List Int} {j k : Nat} {st : List Cell} {Q : Vl → List Cell → Prop}
end
end S
end PG

set_option maxRecDepth 100000
set_option maxHeartbeats 4000000

namespace PG
open PySem PySem.Spec PyProof.Rows L2 RT
namespace S
section
variable {st : List Cell} {os : RT.OS} {QO : Vl → List Cell → RT.OS → Prop} {Ex : EXS} {Q : Vl → List Cell → Prop}
theorem onVs_1 {m : M} {x : Dt} {P : List Dt → Prop} (h : P [x]) : onVs m [.d x] P := h
theorem bint_bl {b : Bool} {P : Dt → Prop} (h : P (.int (if b then 1 else 0))) : bInt [.bl b] P := h
end
end S
end PG

set_option maxRecDepth 100000
set_option maxHeartbeats 4000000

namespace PG
open PySem PySem.Spec PyProof.Rows L2 RT S
namespace X
theorem lk_set {k : Nat} {o : OCell} : ∀ b : RT.OS, (setO b k o).lookup k = some o
  | [] => List.lookup_cons_self
  | (j, x) :: r => by
    unfold setO
    by_cases h : j = k
    · rw [if_pos h]
      exact List.lookup_cons_self
    · rw [if_neg h]
      unfold List.lookup
      rw [show (k == j) = false from beq_eq_false_iff_ne.mpr (fun e => h e.symm)]
      exact lk_set r
theorem set_set {k : Nat} {o o' : OCell} : ∀ b : RT.OS, setO (setO b k o) k o' = setO b k o'
  | [] => by simp [setO]
  | (j, x) :: r => by
    by_cases h : j = k
    · simp [setO, h]
    · simp [setO, h, set_set r]
section
variable {b : RT.OS} {st : List Cell} {k : Nat} {T : List (List Nat)} {p : Nat} {QO : Vl → List Cell → RT.OS → Prop} {Ex : EXS}
end
end X
end PG

set_option maxRecDepth 100000
set_option maxHeartbeats 4000000

namespace PG
open PySem PySem.Spec PyProof.Rows L2 RT S
namespace X
section
variable {b : RT.OS} {st : List Cell} {k : Nat} {T : List (List Nat)} {p : Nat} {QO : Vl → List Cell → RT.OS → Prop} {Ex : EXS}
end
end X
end PG

set_option maxRecDepth 100000
set_option maxHeartbeats 4000000

namespace PG
open PySem PySem.Spec PyProof.Rows L2 RT S
namespace X
inductive Perr where
  | endE
  | tok (p : Nat)
  deriving DecidableEq
def Perr.nm : Perr → Str
  | .endE => "EndError"
  | .tok _ => "TokenError"
def Perr.dt : Perr → Dt
  | .endE => .non
  | .tok p => .int (p : Int)
def pNum (T : List (List Nat)) (p : Nat) : Except Perr (Rat × Nat) := match T[p]? with
  | none => .error .endE
  | some w => match fracF w with
    | none => .error (.tok (p + 1))
    | some x => .ok (x, p + 1)
def pOpt (T : List (List Nat)) (p : Nat) (w : List Nat) : Except Perr (Option Rat × Nat) := if T[p]? = some w then (match pNum T (p + 1) with
  | .ok (x, q) => .ok (some x, q)
  | .error e => .error e) else .ok (none, p)
def wFrom : List Nat := [102, 114, 111, 109]
def wTo : List Nat := [116, 111]
def wAt : List Nat := [97, 116]
def wStop : List Nat := [115, 116, 111, 112]
section
variable {b : RT.OS} {st : List Cell} {k : Nat} {T : List (List Nat)} {p : Nat} {QO : Vl → List Cell → RT.OS → Prop} {Ex : EXS}
def pStop (T : List (List Nat)) (p : Nat) : Except Perr (El × Nat) := match pOpt T p wFrom with
  | .error e => .error e
  | .ok (a, p1) => match pOpt T p1 wTo with
    | .error e => .error e
    | .ok (b, p2) => .ok (.stop a b, p2)
end
end X
end PG

set_option maxRecDepth 100000
set_option maxHeartbeats 4000000

namespace PG
open PySem PySem.Spec PyProof.Rows L2 RT S
namespace X
def wGap : List Nat := [103, 97, 112]
def wLens : List Nat := [108, 101, 110, 115]
def wPrism : List Nat := [112, 114, 105, 115, 109]
def wAfocal : List Nat := [97, 102, 111, 99, 97, 108]
def wordsL : List (List Nat) := [wGap, wLens, wPrism, wAfocal, wStop]
def elW (w : List Nat) (x : Rat) : El := if w = wGap then .gap x else if w = wPrism then .prism x else .afocal x
def pElem (T : List (List Nat)) (p : Nat) : Except Perr (El × Nat) := match T[p]? with
  | none => .error .endE
  | some w => if w ∈ wordsL then (if w = wStop then pStop T (p + 1) else match pNum T (p + 1) with
    | .error e => .error e
    | .ok (x, p2) => if w = wLens then (match pOpt T p2 wAt with
      | .error e => .error e
      | .ok (c, p3) => .ok (.lens x (c.getD 0), p3)) else .ok (elW w x, p2)) else .error (.tok (p + 1))
section
variable {b : RT.OS} {st : List Cell} {k : Nat} {T : List (List Nat)} {p : Nat} {QO : Vl → List Cell → RT.OS → Prop} {Ex : EXS}
end
end X
end PG

set_option maxRecDepth 100000
set_option maxHeartbeats 4000000

namespace PG
open PySem PySem.Spec PyProof.Rows L2 RT S
namespace X
def pRest (T : List (List Nat)) : Nat → List El → Nat → Except Perr (List El)
  | 0, acc, _ => .ok acc
  | n + 1, acc, p => if p < T.length then (if T[p]? = some [59] then (match pElem T (p + 1) with
    | .error e => .error e
    | .ok (x, q) => pRest T n (acc ++ [x]) q) else .error (.tok (p + 1))) else .ok acc
def pTrain (T : List (List Nat)) : Except Perr (List El) := if T = [] then .ok [] else match pElem T 0 with
  | .error e => .error e
  | .ok (x, p) => pRest T (T.length + 1) [x] p
theorem xguardF {os : RT.OS} {ct : RT.OS → DT} {a : RT.OS → DS} {rest : DSO} {Ex : EXO} {E : DOEnds} {m : M} (m' : M) (hc : ∀ K : Bool → M → Prop, K false m' → ct os m K) (h : rest Ex E m' os) : xSeq (xS fun os => dIfS (ct os) (a os) dNext) rest Ex E m os := hc _ (by
  dsimp only
  rw [if_neg Bool.false_ne_true]
  exact h)
theorem xthenF {os : RT.OS} {ct : RT.OS → DT} {a : RT.OS → DS} {rest : DSO} {Ex : EXO} {E : DOEnds} {m : M} (m' : M) (hc : ∀ K : Bool → M → Prop, K true m' → ct os m K) (h : a os ⟨fun m1 => rest Ex E m1 os, fun v m1 => E.rt v m1 os, fun m1 => E.bk m1 os, fun m1 => E.ct m1 os⟩ m') : xSeq (xS fun os => dIfS (ct os) (a os) dNext) rest Ex E m os := hc _ (by
  dsimp only
  rw [if_pos rfl]
  exact h)
section
variable {b : RT.OS} {st : List Cell} {k : Nat} {T : List (List Nat)} {p : Nat} {QO : Vl → List Cell → RT.OS → Prop} {Ex : EXS}
end
end X
end PG

set_option maxRecDepth 100000
set_option maxHeartbeats 4000000

namespace PG
open PySem PySem.Spec PyProof.Rows L2 RT S
namespace X
def goodE : El → Bool
  | .afocal m => !decide (m = 0)
  | .stop (some lo) (some hi) => !decide (hi < lo)
  | _ => true
section
variable {b : RT.OS} {st : List Cell} {k : Nat} {l : List Nat} {Q : Vl → List Cell → Prop} {QO : Vl → List Cell → RT.OS → Prop} {Ex : EXS}
end
end X
end PG

set_option maxRecDepth 100000
set_option maxHeartbeats 4000000

namespace PG
open PySem PySem.Spec PyProof.Rows L2 RT S
namespace X
end X
end PG

set_option maxRecDepth 100000
set_option maxHeartbeats 4000000

namespace PG
open PySem PySem.Spec PyProof.Rows L2 RT S
namespace X
def stB (e : El) : Bool := decide (nmE e = ("stop" : Str))
inductive PRes where
  | good (es : List El)
  | err (e : Perr)
  | bad
def judgeE (es : List El) : Bool := decide (16 < es.length) || (decide (8 < (es.filter stB).length) || !es.all goodE)
def parseF (l : List Nat) : PRes := match pTrain (toksF l) with
  | .error e => .err e
  | .ok es => if judgeE es = true then .bad else .good es
section
variable {b : RT.OS} {st : List Cell} {l : List Nat} {QO : Vl → List Cell → RT.OS → Prop} {Ex : EXS}
end
end X
end PG

set_option maxRecDepth 100000
set_option maxHeartbeats 4000000

namespace PG
open PySem PySem.Spec PyProof.Rows L2 RT S
namespace X
def Ev (t : DE) (m : M) (d : Dt) : Prop := ∀ K : Vl → M → Prop, K (.d d) m → t m K
section
variable {a b t : DE} {m : M} {x y z d : Dt} {w v : List Nat}
theorem ev_c (x : Dt) : Ev (dC x) m x := fun K h => h
theorem ev_var {i : Nat} (h : m.sl[i]? = some (some (.d d))) : Ev (dVar i) m d := fun K hK => by
  unfold dVar
  rw [h]
  exact hK
theorem ev_op {r : DR2} (hr : ∀ P : Dt → Prop, P z → r x y P) (ha : Ev a m x) (hb : Ev b m y) : Ev (dOp r a b) m z := fun K h => ha _ (hb _ (onV_dm (onV_dm (hr _ h))))
theorem ev_bi {r : DRB} (hr : ∀ P : Dt → Prop, P z → r [x] P) (ha : Ev a m x) : Ev (dBi r (dCons a dNil)) m z := fun K h => ha _ (onVs_1 (P := fun xs => r xs fun z => K (.d z) m) (hr (fun z => K (.d z) m) h))
theorem ev_ix {xs : List Dt} {i : Int} (ha : Ev a m (.lst xs)) (hb : Ev b m (.int i)) (h : atI xs i = some z) : Ev (dOp RT.rIx a b) m z := ev_op (x := .lst xs) (y := .int i) (fun P hP => rIx_mk h hP) ha hb
theorem ev_ixt {xs : List Dt} {i : Int} (ha : Ev a m (.tup xs)) (hb : Ev b m (.int i)) (h : atI xs i = some z) : Ev (dOp RT.rIx a b) m z := ev_op (x := .tup xs) (y := .int i) (fun P hP => show onO (atI xs i) P from onO_mk h hP) ha hb
theorem ev_addi {i j : Int} (ha : Ev a m (.int i)) (hb : Ev b m (.int j)) : Ev (dOp rAddA a b) m (.int (i + j)) := ev_op (x := .int i) (y := .int j) (fun P hP => hP) ha hb
theorem ev_subi {i j : Int} (ha : Ev a m (.int i)) (hb : Ev b m (.int j)) : Ev (dOp RT.rSub a b) m (.int (i - j)) := ev_op (x := .int i) (y := .int j) (fun P hP => ⟨trivial, hP⟩) ha hb
theorem ev_eqi {i j : Int} (ha : Ev a m (.int i)) (hb : Ev b m (.int j)) : Ev (dOp RT.rEq a b) m (.bl (decide (i = j))) := ev_op (x := .int i) (y := .int j) (fun P hP => ⟨sh_ok (n := 0) sh_int, sh_ok (n := 0) sh_int, by rw [eqD_int]; exact hP⟩) ha hb
theorem ev_test {b : Bool} (h : Ev t m (.bl b)) {K : Bool → M → Prop} (hK : K b m) : dTest t m K := h _ (by cases b <;> exact hK)
theorem ev_set {i : Nat} {E : DEnds} {u : DS} (h : Ev t m d) (hu : u E ⟨m.sl.set i (some (.d d)), m.st⟩) : dSeq (dSet i t) u E m := h _ hu
theorem difs_no {c : DT} {a : DS} {E : DEnds} (hc : ∀ K : Bool → M → Prop, K false m → c m K) (h : E.nx m) : dIfS c a dNext E m := hc _ (by
  rw [if_neg Bool.false_ne_true]
  exact h)
theorem difs_yes {c : DT} {a u : DS} {E : DEnds} (hc : ∀ K : Bool → M → Prop, K true m → c m K) (h : a E m) : dIfS c a u E m := hc _ (by
  rw [if_pos rfl]
  exact h)
end
end X
end PG

set_option maxRecDepth 100000
set_option maxHeartbeats 4000000

namespace PG
open PySem PySem.Spec PyProof.Rows L2 RT S
namespace X
def natL (n : Nat) : List Nat := (Nat.toDigits 10 n).map Char.toNat
theorem dch : ∀ n, n < 10 → (Nat.digitChar n).toNat = 48 + n := by decide
theorem natL_lt {n : Nat} (h : n < 10) : natL n = [48 + n] := by
  unfold natL
  rw [Nat.toDigits_of_lt_base h, List.map_singleton, dch n h]
theorem natL_ge {n : Nat} (h : 10 ≤ n) : natL n = natL (n / 10) ++ [48 + n % 10] := by
  unfold natL
  rw [Nat.toDigits_of_base_le (by decide) h, List.map_append, List.map_singleton, dch _ (Nat.mod_lt _ (by decide))]
theorem natL_val (n : Nat) : NumText.digitsVal (natL n) = n := by
  induction n using Nat.strongRecOn with
  | ind n ih =>
    by_cases h : n < 10
    · rw [natL_lt h]
      unfold NumText.digitsVal
      show 0 * 10 + (48 + n - 48) = n
      omega
    · have h : 10 ≤ n := by omega
      have e := ih (n / 10) (by omega)
      rw [natL_ge h]
      unfold NumText.digitsVal at e ⊢
      rw [List.foldl_append, e]
      show n / 10 * 10 + (48 + n % 10 - 48) = n
      omega
theorem natL_dig (n : Nat) : ∀ c ∈ natL n, 48 ≤ c ∧ c ≤ 57 := by
  induction n using Nat.strongRecOn with
  | ind n ih =>
    by_cases h : n < 10
    · rw [natL_lt h]
      intro c hc
      rw [List.mem_singleton.mp hc]
      omega
    · have h : 10 ≤ n := by omega
      rw [natL_ge h]
      intro c hc
      rcases List.mem_append.mp hc with hc | hc
      · exact ih (n / 10) (by omega) c hc
      · rw [List.mem_singleton.mp hc]
        omega
theorem natL_len {n k : Nat} (hk : 1 ≤ k) (h : n < 10 ^ k) : (natL n).length ≤ k := by
  unfold natL
  rw [List.length_map]
  exact toDigits_len_pow (by decide) hk h
theorem natL_head {n : Nat} (hn : 0 < n) : ∃ c r, natL n = c :: r ∧ c ≠ 48 := by
  induction n using Nat.strongRecOn with
  | ind n ih =>
    by_cases h : n < 10
    · exact ⟨48 + n, [], natL_lt h, by omega⟩
    · have h : 10 ≤ n := by omega
      obtain ⟨c, r, e, hc⟩ := ih (n / 10) (by omega) (by omega)
      exact ⟨c, r ++ [48 + n % 10], by rw [natL_ge h, e]; rfl, hc⟩
theorem natL_ne (n : Nat) : natL n ≠ [] := by
  by_cases h : n < 10
  · rw [natL_lt h]
    exact List.cons_ne_nil _ _
  · rw [natL_ge (by omega)]
    simp
theorem natF_natL {n : Nat} (h0 : 0 < n) (h1 : n ≤ 1000000) : natF (natL n) = some n := by
  unfold natF
  have hb : badN (natL n) = false := by
    unfold badN
    obtain ⟨c, r, e, hc⟩ := natL_head h0
    have hl := natL_len (n := n) (k := 7) (by decide) (by omega)
    have hd := natL_dig n
    rw [e] at hl hd ⊢
    rw [decide_eq_false (by simp), decide_eq_false (by omega), decide_eq_false (by simpa using hc)]
    have : (c :: r).all isDig = true := by
      rw [List.all_eq_true]
      intro x hx
      have := hd x hx
      unfold isDig
      rw [decide_eq_true this.1, decide_eq_true this.2]
      rfl
    rw [this]
    rfl
  rw [hb, if_neg (by decide), natL_val, if_neg (by omega)]
def intZ (i : Int) : List Nat := if i < 0 then 45 :: natL i.natAbs else natL i.natAbs
def numW (x : Rat) : List Nat := if x.den = 1 then intZ x.num else intZ x.num ++ [47] ++ natL x.den
theorem spl_no : ∀ (l acc : List Nat), 47 ∉ l → TL.spl [47] 0 acc l = [acc ++ l]
  | [], acc, _ => by
    rw [TL.spl.eq_def]
    simp
  | c :: r, acc, h => by
    rw [TL.spl.eq_def]
    dsimp only
    rw [if_neg (by
      intro e
      apply h
      have : c = 47 := by
        simp [TL.pre] at e
        omega
      rw [this]
      exact List.mem_cons_self), spl_no r _ (fun e => h (List.mem_cons_of_mem _ e))]
    simp
theorem spl_one : ∀ (l acc m : List Nat), 47 ∉ l → 47 ∉ m → TL.spl [47] 0 acc (l ++ 47 :: m) = [acc ++ l, m]
  | [], acc, m, _, hm => by
    rw [List.nil_append, TL.spl.eq_def]
    dsimp only
    rw [if_pos (by simp [TL.pre])]
    show acc :: TL.spl [47] 0 [] m = _
    rw [spl_no m [] hm]
    simp
  | c :: r, acc, m, h, hm => by
    rw [List.cons_append, TL.spl.eq_def]
    dsimp only
    rw [if_neg (by
      intro e
      apply h
      have : c = 47 := by
        simp [TL.pre] at e
        omega
      rw [this]
      exact List.mem_cons_self), spl_one r _ m (fun e => h (List.mem_cons_of_mem _ e)) hm]
    simp
theorem natL_47 (n : Nat) : 47 ∉ natL n := fun h => by
  have := natL_dig n 47 h
  omega
theorem natL_take (n : Nat) (r : List Nat) : (natL n ++ r).take 1 ≠ [45] := by
  have hd := natL_dig n
  cases e : natL n with
  | nil => exact absurd e (natL_ne n)
  | cons c t =>
    rw [e] at hd
    intro h
    have : c = 45 := by simpa using h
    have := hd c List.mem_cons_self
    omega
theorem parts_num (i : Int) (r : List Nat) (hr : r = [] ∨ ∃ d, r = 47 :: natL d) : partsF (intZ i ++ r) = natL i.natAbs :: (if r = [] then [] else [r.drop 1]) ∧ ∀ n, sgF (intZ i ++ r) n = if i < 0 then -(n : Int) else n := by
  have key : ∀ a : Nat, TL.spl [47] 0 [] (natL a ++ r) = natL a :: (if r = [] then [] else [r.drop 1]) := fun a => by
    rcases hr with rfl | ⟨d, rfl⟩
    · rw [List.append_nil, spl_no _ _ (natL_47 a), if_pos rfl]
      rfl
    · rw [spl_one _ _ _ (natL_47 a) (natL_47 d), if_neg (by simp)]
      rfl
  unfold partsF sgF intZ
  by_cases h : i < 0
  · rw [if_pos h]
    refine ⟨?_, fun n => ?_⟩
    · rw [if_pos (by rfl)]
      exact key _
    · rw [if_pos (by rfl), if_pos h]
  · rw [if_neg h]
    refine ⟨?_, fun n => ?_⟩
    · rw [if_neg (natL_take _ _)]
      exact key _
    · rw [if_neg (natL_take _ _), if_neg h]
theorem fracF_int {i : Int} (h0 : i ≠ 0) (h1 : i.natAbs ≤ 1000000) : fracF (intZ i) = some (Rat.divInt i 1) := by
  unfold fracF
  obtain ⟨e1, e2⟩ := parts_num i [] (.inl rfl)
  rw [List.append_nil] at e1 e2
  rw [if_pos rfl] at e1
  obtain ⟨c, r, e, hc⟩ := natL_head (n := i.natAbs) (by omega)
  have hne : intZ i ≠ [48] := by
    unfold intZ
    split
    · intro h
      cases h
    · rw [e]
      intro h
      cases h
      exact hc rfl
  rw [if_neg hne, e1]
  show (match natF (natL i.natAbs) with
    | some n => some (Rat.divInt (sgF (intZ i) n) 1)
    | none => none) = _
  rw [natF_natL (by omega) h1]
  dsimp only
  rw [e2]
  congr 2
  split <;> omega
theorem fracF_two {i : Int} {d : Nat} (h0 : i ≠ 0) (h1 : i.natAbs ≤ 1000000) (d0 : 0 < d) (d1 : d ≤ 1000000) : fracF (intZ i ++ [47] ++ natL d) = some (Rat.divInt i d) := by
  unfold fracF
  rw [List.append_assoc]
  obtain ⟨e1, e2⟩ := parts_num i ([47] ++ natL d) (.inr ⟨d, rfl⟩)
  rw [if_neg (by simp)] at e1
  have hne : intZ i ++ ([47] ++ natL d) ≠ [48] := by
    intro h
    have := congrArg List.length h
    have h1 : 0 < (intZ i).length := by
      unfold intZ
      have := List.length_pos_iff.mpr (natL_ne i.natAbs)
      split
      · simp
      · exact this
    simp at this
    omega
  rw [if_neg hne, e1]
  show (match natF (natL i.natAbs), natF (natL d) with
    | some n, some d' => some (Rat.divInt (sgF (intZ i ++ ([47] ++ natL d)) n) (d' : Int))
    | _, _ => none) = _
  rw [natF_natL (by omega) h1, natF_natL d0 d1]
  dsimp only
  rw [e2]
  congr 2
  split <;> omega
theorem fracF_num {x : Rat} (h1 : x.num.natAbs ≤ 1000000) (h2 : x.den ≤ 1000000) : fracF (numW x) = some x := by
  unfold numW
  by_cases h0 : x.num = 0
  · have : x = 0 := Rat.num_eq_zero.mp h0
    subst this
    decide +kernel
  by_cases hd : x.den = 1
  · rw [if_pos hd, fracF_int h0 h1]
    congr 1
    have := Rat.num_divInt_den x
    rw [hd] at this
    exact this
  · rw [if_neg hd, fracF_two h0 h1 x.den_pos h2]
    congr 1
    exact Rat.num_divInt_den x
theorem intZ_asc (i : Int) : ∀ c ∈ intZ i, 45 ≤ c ∧ c ≤ 57 := fun c hc => by
  unfold intZ at hc
  split at hc
  · rcases List.mem_cons.mp hc with rfl | hc
    · omega
    · have := natL_dig _ c hc
      omega
  · have := natL_dig _ c hc
    omega
theorem numW_asc (x : Rat) : ∀ c ∈ numW x, 45 ≤ c ∧ c ≤ 57 := fun c hc => by
  unfold numW at hc
  split at hc
  · exact intZ_asc _ c hc
  · rcases List.mem_append.mp hc with hc | hc
    · rcases List.mem_append.mp hc with hc | hc
      · exact intZ_asc _ c hc
      · rw [List.mem_singleton.mp hc]
        omega
    · have := natL_dig _ c hc
      omega
theorem intZ_ne (i : Int) : intZ i ≠ [] := by
  unfold intZ
  split
  · exact List.cons_ne_nil _ _
  · exact natL_ne _
theorem numW_ne (x : Rat) : numW x ≠ [] := by
  unfold numW
  split
  · exact intZ_ne _
  · simp [intZ_ne]
theorem intZ_len {i : Int} {k : Nat} (hk : 1 ≤ k) (h : i.natAbs < 10 ^ k) : (intZ i).length ≤ k + 1 := by
  have := natL_len hk h
  unfold intZ
  split
  · rw [List.length_cons]
    omega
  · omega
theorem numW_len {x : Rat} (h1 : x.num.natAbs ≤ 1000000) (h2 : x.den ≤ 1000000) : (numW x).length ≤ 20 := by
  have a := intZ_len (i := x.num) (k := 7) (by decide) (by omega)
  have b := natL_len (n := x.den) (k := 7) (by decide) (by omega)
  unfold numW
  split
  · omega
  · rw [List.length_append, List.length_append, List.length_singleton]
    omega
end X
end PG

set_option maxRecDepth 100000
set_option maxHeartbeats 4000000

namespace PG
open PySem PySem.Spec PyProof.Rows L2 RT S
namespace X
def NB (x : Rat) : Prop := x.num.natAbs ≤ 1000000 ∧ x.den ≤ 1000000
def NBo (o : Option Rat) : Prop := ∀ x, o = some x → NB x
def NBe : El → Prop
  | .gap g => NB g
  | .lens p c => NB p ∧ NB c
  | .prism d => NB d
  | .afocal m => NB m
  | .stop lo hi => NBo lo ∧ NBo hi
def optL (w : List Nat) : Option Rat → List (List Nat)
  | none => []
  | some x => [w, numW x]
def ctr (c : Rat) : Option Rat := if c = 0 then none else some c
def elL : El → List (List Nat)
  | .gap g => [wGap, numW g]
  | .lens p c => wLens :: numW p :: optL wAt (ctr c)
  | .prism d => [wPrism, numW d]
  | .afocal m => [wAfocal, numW m]
  | .stop lo hi => wStop :: (optL wFrom lo ++ optL wTo hi)
def trR (es : List El) : List (List Nat) := es.flatMap fun e => [59] :: elL e
def trL : List El → List (List Nat)
  | [] => []
  | e :: r => elL e ++ trR r
theorem get_drop {T : List (List Nat)} {p : Nat} {w : List Nat} {R : List (List Nat)} (h : T.drop p = w :: R) : T[p]? = some w ∧ T.drop (p + 1) = R ∧ p < T.length := by
  refine ⟨?_, ?_, ?_⟩
  · have := congrArg (·[0]?) h
    simpa using this
  · rw [← List.drop_drop, h]
    rfl
  · have := congrArg List.length h
    rw [List.length_drop, List.length_cons] at this
    omega
theorem pNum_w {T : List (List Nat)} {p : Nat} {x : Rat} {R : List (List Nat)} (hx : NB x) (h : T.drop p = numW x :: R) : pNum T p = .ok (x, p + 1) := by
  unfold pNum
  rw [(get_drop h).1]
  dsimp only
  rw [fracF_num hx.1 hx.2]
theorem pOpt_w {T : List (List Nat)} {p : Nat} {w : List Nat} {o : Option Rat} {R : List (List Nat)} (hx : NBo o) (h : T.drop p = optL w o ++ R) (hR : R[0]? ≠ some w) : pOpt T p w = .ok (o, p + (optL w o).length) ∧ T.drop (p + (optL w o).length) = R := by
  unfold pOpt
  cases o with
  | none =>
    have h : T.drop p = R := h
    have : T[p]? ≠ some w := by
      rw [← h] at hR
      simpa using hR
    rw [if_neg this]
    exact ⟨rfl, h⟩
  | some x =>
    have h : T.drop p = w :: numW x :: R := h
    obtain ⟨h1, h2, h3⟩ := get_drop h
    rw [if_pos h1, pNum_w (hx x rfl) h2]
    exact ⟨rfl, (get_drop h2).2.1⟩
def Fin0 (R : List (List Nat)) : Prop := ∀ w ∈ [wFrom, wTo, wAt], R[0]? ≠ some w
theorem pStop_w {T : List (List Nat)} {p : Nat} {lo hi : Option Rat} {R : List (List Nat)} (h1 : NBo lo) (h2 : NBo hi) (h : T.drop p = optL wFrom lo ++ optL wTo hi ++ R) (hR : Fin0 R) : pStop T p = .ok (.stop lo hi, p + (optL wFrom lo ++ optL wTo hi).length) ∧ T.drop (p + (optL wFrom lo ++ optL wTo hi).length) = R := by
  unfold pStop
  rw [List.append_assoc] at h
  have hR' : (optL wTo hi ++ R)[0]? ≠ some wFrom := by
    cases hi with
    | none => exact hR _ (by decide)
    | some x =>
      intro e
      have : wTo = wFrom := by
        simpa [optL] using e
      revert this
      decide
  obtain ⟨a1, a2⟩ := pOpt_w h1 h hR'
  obtain ⟨b1, b2⟩ := pOpt_w h2 a2 (hR _ (by decide))
  rw [a1]
  dsimp only
  rw [b1]
  dsimp only
  rw [List.length_append, ← Nat.add_assoc]
  exact ⟨rfl, b2⟩
theorem pElem_w {T : List (List Nat)} {p : Nat} {e : El} {R : List (List Nat)} (he : NBe e) (h : T.drop p = elL e ++ R) (hR : Fin0 R) : pElem T p = .ok (e, p + (elL e).length) ∧ T.drop (p + (elL e).length) = R := by
  unfold pElem
  have one : ∀ (w : List Nat) (x : Rat), NB x → T.drop p = w :: numW x :: R → T[p]? = some w ∧ pNum T (p + 1) = .ok (x, p + 1 + 1) ∧ T.drop (p + 2) = R := fun w x hx h => by
    obtain ⟨h1, h2, h3⟩ := get_drop h
    exact ⟨h1, pNum_w hx h2, (get_drop h2).2.1⟩
  cases e with
  | gap g =>
    obtain ⟨a, b, c⟩ := one _ _ he h
    rw [a]
    dsimp only
    rw [if_pos (by decide), if_neg (by decide), b]
    dsimp only
    rw [if_neg (by decide)]
    exact ⟨rfl, c⟩
  | prism g =>
    obtain ⟨a, b, c⟩ := one _ _ he h
    rw [a]
    dsimp only
    rw [if_pos (by decide), if_neg (by decide), b]
    dsimp only
    rw [if_neg (by decide)]
    exact ⟨rfl, c⟩
  | afocal g =>
    obtain ⟨a, b, c⟩ := one _ _ he h
    rw [a]
    dsimp only
    rw [if_pos (by decide), if_neg (by decide), b]
    dsimp only
    rw [if_neg (by decide)]
    exact ⟨rfl, c⟩
  | lens x c =>
    have h : T.drop p = wLens :: numW x :: (optL wAt (ctr c) ++ R) := h
    obtain ⟨h1, h2, h3⟩ := get_drop h
    have hc : NBo (ctr c) := fun y hy => by
      unfold ctr at hy
      split at hy
      · cases hy
      · cases hy
        exact he.2
    obtain ⟨b1, b2⟩ := pOpt_w hc (get_drop h2).2.1 (hR _ (by decide))
    rw [h1]
    dsimp only
    rw [if_pos (by decide), if_neg (by decide), pNum_w he.1 h2]
    dsimp only
    rw [if_pos rfl, b1]
    dsimp only
    have e1 : (ctr c).getD 0 = c := by
      unfold ctr
      split
      · rename_i e
        exact e.symm
      · rfl
    have e2 : p + (elL (.lens x c)).length = p + 1 + 1 + (optL wAt (ctr c)).length := by
      show p + (wLens :: numW x :: optL wAt (ctr c)).length = _
      rw [List.length_cons, List.length_cons]
      omega
    rw [e1, e2]
    exact ⟨rfl, b2⟩
  | stop lo hi =>
    have h : T.drop p = wStop :: (optL wFrom lo ++ optL wTo hi ++ R) := h
    obtain ⟨h1, h2, h3⟩ := get_drop h
    obtain ⟨b1, b2⟩ := pStop_w he.1 he.2 h2 hR
    rw [h1]
    dsimp only
    rw [if_pos (by decide), if_pos rfl, b1]
    have e2 : p + (elL (.stop lo hi)).length = p + 1 + (optL wFrom lo ++ optL wTo hi).length := by
      show p + (wStop :: (optL wFrom lo ++ optL wTo hi)).length = _
      rw [List.length_cons]
      omega
    rw [e2]
    exact ⟨rfl, b2⟩
theorem fin_trR (es : List El) : Fin0 (trR es) := fun w hw => by
  cases es with
  | nil =>
    intro e
    cases e
  | cons e r =>
    intro h
    have : w = [59] := by
      have h : some [59] = some w := h
      cases h
      rfl
    subst this
    revert hw
    decide
theorem pRest_w {T : List (List Nat)} : ∀ (es : List El) (n : Nat) (acc : List El) (p : Nat), (∀ e ∈ es, NBe e) → T.drop p = trR es → es.length ≤ n → pRest T n acc p = .ok (acc ++ es)
  | [], n, acc, p, _, h, _ => by
    rw [List.append_nil]
    cases n with
    | zero => rfl
    | succ n =>
      unfold pRest
      have : ¬ p < T.length := by
        have := congrArg List.length h
        rw [List.length_drop] at this
        have h0 : (trR []).length = 0 := rfl
        omega
      rw [if_neg this]
  | e :: r, n, acc, p, he, h, hn => by
    cases n with
    | zero => cases hn
    | succ n =>
      have h : T.drop p = [59] :: (elL e ++ trR r) := h
      obtain ⟨h1, h2, h3⟩ := get_drop h
      obtain ⟨b1, b2⟩ := pElem_w (he e List.mem_cons_self) h2 (fin_trR r)
      unfold pRest
      rw [if_pos h3, if_pos h1, b1]
      dsimp only
      rw [List.length_cons] at hn
      rw [pRest_w r n _ _ (fun x hx => he x (List.mem_cons_of_mem _ hx)) b2 (by omega)]
      simp
theorem elL_ne (e : El) : elL e ≠ [] := by cases e <;> exact List.cons_ne_nil _ _
theorem trR_len (es : List El) : es.length ≤ (trR es).length := by
  induction es with
  | nil => exact Nat.le_refl _
  | cons e r ih =>
    show r.length + 1 ≤ ([59] :: (elL e ++ trR r)).length
    rw [List.length_cons, List.length_append]
    omega
theorem pTrain_w {es : List El} (he : ∀ e ∈ es, NBe e) : pTrain (trL es) = .ok es := by
  cases es with
  | nil => rfl
  | cons e r =>
    unfold pTrain
    have hne : trL (e :: r) ≠ [] := by
      show elL e ++ trR r ≠ []
      simp [elL_ne]
    rw [if_neg hne]
    have h0 : (trL (e :: r)).drop 0 = elL e ++ trR r := rfl
    obtain ⟨b1, b2⟩ := pElem_w (he e List.mem_cons_self) h0 (fin_trR r)
    rw [b1]
    dsimp only
    have hl := trR_len r
    have : (trL (e :: r)).length = (elL e).length + (trR r).length := List.length_append
    rw [pRest_w r _ _ _ (fun x hx => he x (List.mem_cons_of_mem _ hx)) b2 (by omega)]
    rfl
end X
end PG

set_option maxRecDepth 100000
set_option maxHeartbeats 4000000

namespace PG
open PySem PySem.Spec PyProof.Rows L2 RT S
namespace X
def tokS : List Nat → List (List Nat) → List Nat → List (List Nat) × List Nat
  | [], acc, w => (acc, w)
  | c :: r, acc, w => if c = 32 ∨ c = 59 then tokS r ((acc ++ if w = [] then [] else [w]) ++ if c = 59 then [[59]] else []) [] else tokS r acc (w ++ [c])
theorem tokR_S : ∀ (l : List Nat) (acc : List (List Nat)) (w : List Nat), tokR l acc w = (tokS l acc w).1
  | [], _, _ => rfl
  | c :: r, acc, w => by
    unfold tokR tokS
    by_cases h : c = 32 ∨ c = 59
    · rw [if_pos h, if_pos h]
      exact tokR_S r _ _
    · rw [if_neg h, if_neg h]
      exact tokR_S r _ _
theorem tokS_cons (c : Nat) (r : List Nat) (acc : List (List Nat)) (w : List Nat) : tokS (c :: r) acc w = if c = 32 ∨ c = 59 then tokS r ((acc ++ if w = [] then [] else [w]) ++ if c = 59 then [[59]] else []) [] else tokS r acc (w ++ [c]) := rfl
theorem tokS_app : ∀ (l m : List Nat) (acc : List (List Nat)) (w : List Nat), tokS (l ++ m) acc w = tokS m (tokS l acc w).1 (tokS l acc w).2
  | [], _, _, _ => rfl
  | c :: r, m, acc, w => by
    rw [List.cons_append, tokS_cons, tokS_cons]
    by_cases h : c = 32 ∨ c = 59
    · rw [if_pos h, if_pos h]
      exact tokS_app r m _ _
    · rw [if_neg h, if_neg h]
      exact tokS_app r m _ _
def fl (s : List (List Nat) × List Nat) : List (List Nat) := s.1 ++ if s.2 = [] then [] else [s.2]
def stT (l : List Nat) : List (List Nat) × List Nat := tokS l [] []
theorem toks_fl (l : List Nat) : toksF l = fl (stT l) := by
  unfold toksF
  rw [tokR_S, tokS_app]
  unfold stT fl
  generalize tokS l [] [] = s
  show (tokS [32] s.1 s.2).1 = _
  rw [tokS_cons, if_pos (Or.inl rfl), if_neg (show ¬ (32 : Nat) = 59 by decide), List.append_nil]
  rfl
def Rdy (l : List Nat) (W : List (List Nat)) : Prop := stT l = (W, [])
def Wd (w : List Nat) : Prop := w ≠ [] ∧ ∀ c ∈ w, c ≠ 32 ∧ c ≠ 59
theorem tokS_word : ∀ (w : List Nat) (acc : List (List Nat)) (u : List Nat), (∀ c ∈ w, c ≠ 32 ∧ c ≠ 59) → tokS w acc u = (acc, u ++ w)
  | [], acc, u, _ => by rw [List.append_nil]; rfl
  | c :: r, acc, u, h => by
    have hc := h c List.mem_cons_self
    unfold tokS
    rw [if_neg (fun e => e.elim hc.1 hc.2), tokS_word r _ _ (fun x hx => h x (List.mem_cons_of_mem _ hx)), List.append_assoc]
    rfl
theorem rdy_nil : Rdy [] [] := rfl
theorem Rdy.toks {l : List Nat} {W : List (List Nat)} (h : Rdy l W) : toksF l = W := by
  rw [toks_fl, h]
  unfold fl
  rw [if_pos rfl, List.append_nil]
theorem Rdy.word {l w : List Nat} {W : List (List Nat)} (h : Rdy l W) (hw : Wd w) : toksF (l ++ w) = W ++ [w] := by
  rw [toks_fl]
  unfold stT
  rw [tokS_app]
  have h : tokS l [] [] = (W, []) := h
  rw [h, tokS_word _ _ _ hw.2]
  unfold fl
  rw [if_neg (by simpa using hw.1)]
  rfl
theorem rdy_sp {l : List Nat} {W : List (List Nat)} (h : toksF l = W) : Rdy (l ++ [32]) W := by
  rw [toks_fl] at h
  unfold Rdy stT
  rw [tokS_app]
  unfold stT fl at h
  generalize tokS l [] [] = s at *
  rw [tokS_cons, if_pos (Or.inl rfl), if_neg (show ¬ (32 : Nat) = 59 by decide), List.append_nil, h]
  rfl
theorem rdy_sc {l : List Nat} {W : List (List Nat)} (h : toksF l = W) : Rdy (l ++ [59]) (W ++ [[59]]) := by
  rw [toks_fl] at h
  unfold Rdy stT
  rw [tokS_app]
  unfold stT fl at h
  generalize tokS l [] [] = s at *
  rw [tokS_cons, if_pos (Or.inr rfl), if_pos rfl, h]
  rfl
theorem rep_succ (l : List Nat) (n : Nat) : l ++ List.replicate (n + 1) 32 = (l ++ List.replicate n 32) ++ [32] := by
  rw [List.replicate_succ', List.append_assoc]
theorem rdy_gap {l : List Nat} {W : List (List Nat)} (h : toksF l = W) : ∀ n, toksF (l ++ List.replicate n 32) = W
  | 0 => by
    rw [List.replicate_zero, List.append_nil]
    exact h
  | n + 1 => by
    rw [rep_succ]
    exact (rdy_sp (rdy_gap h n)).toks
theorem rdy_gap1 {l : List Nat} {W : List (List Nat)} (h : toksF l = W) (n : Nat) : Rdy (l ++ List.replicate (n + 1) 32) W := by
  rw [rep_succ]
  exact rdy_sp (rdy_gap h n)
theorem Rdy.gap {l : List Nat} {W : List (List Nat)} (h : Rdy l W) (n : Nat) : Rdy (l ++ List.replicate n 32) W := by
  cases n with
  | zero =>
    rw [List.replicate_zero, List.append_nil]
    exact h
  | succ n => exact rdy_gap1 h.toks n
def Stp (l : List Nat) (W : List (List Nat)) : Prop := toksF l = W ∧ ((W = [] ∨ W.getLast? = some [59]) → Rdy l W)
def dueW : List (List Nat) → List Nat
  | [] => []
  | w :: r => w ++ r.flatMap fun w => if w = [59] then [59] else 32 :: w
theorem dueW_app (W : List (List Nat)) (w : List Nat) : dueW (W ++ [w]) = if W = [] then w else dueW W ++ if w = [59] then [59] else 32 :: w := by
  cases W with
  | nil =>
    rw [if_pos rfl]
    show w ++ [] = w
    rw [List.append_nil]
  | cons a r =>
    rw [if_neg (List.cons_ne_nil _ _)]
    show a ++ (r ++ [w]).flatMap _ = _
    rw [List.flatMap_append]
    show a ++ (_ ++ ((if w = [59] then [59] else 32 :: w) ++ [])) = _
    rw [List.append_nil, ← List.append_assoc]
    rfl
def Sp (w : List Nat) : Prop := w = [59] ∨ Wd w
theorem wd_ne {w : List Nat} (h : Wd w) : w ≠ [59] := fun e => by
  subst e
  exact (h.2 59 List.mem_cons_self).2 rfl
theorem last_app {W : List (List Nat)} {w : List Nat} : (W ++ [w]).getLast? = some w := by simp
theorem Stp.sc {l : List Nat} {W : List (List Nat)} (h : toksF l = W) : Stp (l ++ [59]) (W ++ [[59]]) := ⟨(rdy_sc h).toks, fun _ => rdy_sc h⟩
theorem Stp.wd {l w : List Nat} {W : List (List Nat)} (h : Rdy l W) (hw : Wd w) : Stp (l ++ w) (W ++ [w]) := ⟨h.word hw, fun e => by
  rcases e with e | e
  · simp at e
  · rw [last_app] at e
    cases e
    exact absurd rfl (wd_ne hw)⟩
theorem due_stp : ∀ (W : List (List Nat)), (∀ w ∈ W, Sp w) → Stp (dueW W) W := fun W => by
  generalize hn : W.length = n
  induction n generalizing W with
  | zero =>
    intro _
    rw [List.length_eq_zero_iff.mp hn]
    exact ⟨rdy_nil.toks, fun _ => rdy_nil⟩
  | succ n ih =>
    intro hW
    have hne : W ≠ [] := fun e => by
      rw [e] at hn
      cases hn
    obtain ⟨V, w, rfl⟩ : ∃ V w, W = V ++ [w] := ⟨W.dropLast, W.getLast hne, (List.dropLast_concat_getLast hne).symm⟩
    rw [List.length_append, List.length_singleton] at hn
    have hV := ih V (by omega) (fun x hx => hW x (List.mem_append_left _ hx))
    rw [dueW_app]
    rcases hW w (List.mem_append_right _ List.mem_cons_self) with rfl | hw
    · by_cases e : V = []
      · subst e
        rw [if_pos rfl]
        exact Stp.sc rdy_nil.toks
      · rw [if_neg e, if_pos rfl]
        exact Stp.sc hV.1
    · by_cases e : V = []
      · subst e
        rw [if_pos rfl]
        exact Stp.wd rdy_nil hw
      · rw [if_neg e, if_neg (wd_ne hw)]
        have : dueW V ++ 32 :: w = (dueW V ++ [32]) ++ w := by simp
        rw [this]
        exact Stp.wd (rdy_sp hV.1) hw
theorem due_toks {W : List (List Nat)} (h : ∀ w ∈ W, Sp w) : toksF (dueW W) = W := (due_stp W h).1
theorem numW_wd (x : Rat) : Wd (numW x) := ⟨numW_ne x, fun c hc => by
  have := numW_asc x c hc
  omega⟩
theorem wd_of {w : List Nat} (h : (!w.isEmpty && w.all fun c => decide (c ≠ 32) && decide (c ≠ 59)) = true) : Wd w := by
  rw [Bool.and_eq_true, List.all_eq_true] at h
  refine ⟨fun e => by simp [e] at h, fun c hc => ?_⟩
  have := h.2 c hc
  rw [Bool.and_eq_true, decide_eq_true_eq, decide_eq_true_eq] at this
  exact this
theorem optL_wd {w : List Nat} (hw : Wd w) (o : Option Rat) : ∀ v ∈ optL w o, Wd v := fun v hv => by
  cases o with
  | none => cases hv
  | some x =>
    rcases List.mem_cons.mp hv with rfl | hv
    · exact hw
    · rw [List.mem_singleton.mp hv]
      exact numW_wd x
theorem elL_wd (e : El) : ∀ w ∈ elL e, Wd w := fun w hw => by
  have two : ∀ (u : List Nat) (x : Rat), Wd u → w ∈ [u, numW x] → Wd w := fun u x hu h => by
    rcases List.mem_cons.mp h with rfl | h
    · exact hu
    · rw [List.mem_singleton.mp h]
      exact numW_wd x
  cases e with
  | gap g => exact two _ _ (wd_of (by decide)) hw
  | prism g => exact two _ _ (wd_of (by decide)) hw
  | afocal g => exact two _ _ (wd_of (by decide)) hw
  | lens p c =>
    rcases List.mem_cons.mp hw with rfl | hw
    · exact wd_of (by decide)
    · rcases List.mem_cons.mp hw with rfl | hw
      · exact numW_wd p
      · exact optL_wd (wd_of (by decide)) _ w hw
  | stop lo hi =>
    rcases List.mem_cons.mp hw with rfl | hw
    · exact wd_of (by decide)
    · rcases List.mem_append.mp hw with hw | hw
      · exact optL_wd (wd_of (by decide)) _ w hw
      · exact optL_wd (wd_of (by decide)) _ w hw
theorem trR_sp (es : List El) : ∀ w ∈ trR es, Sp w := fun w hw => by
  obtain ⟨e, he, hw⟩ := List.mem_flatMap.mp hw
  rcases List.mem_cons.mp hw with rfl | hw
  · exact .inl rfl
  · exact .inr (elL_wd e w hw)
theorem trL_sp (es : List El) : ∀ w ∈ trL es, Sp w := fun w hw => by
  cases es with
  | nil => cases hw
  | cons e r =>
    rcases List.mem_append.mp hw with hw | hw
    · exact .inr (elL_wd e w hw)
    · exact trR_sp r w hw
def elT (e : El) : List Nat := TL.joinL [32] (elL e)
def trT (es : List El) : List Nat := TL.joinL [59, 32] (es.map elT)
theorem join_cons (S a : List Nat) (r : List (List Nat)) : TL.joinL S (a :: r) = a ++ r.flatMap fun w => S ++ w := by
  induction r generalizing a with
  | nil =>
    rw [TL.joinL.eq_def]
    show a = a ++ []
    rw [List.append_nil]
  | cons b r ih =>
    rw [TL.joinL.eq_def]
    dsimp only
    rw [ih b, List.flatMap_cons]
    simp only [List.append_assoc]
theorem dueW_cons (a : List Nat) (r : List (List Nat)) : dueW (a :: r) = a ++ r.flatMap fun w => if w = [59] then [59] else 32 :: w := rfl
theorem elT_due (e : El) (R : List (List Nat)) : dueW (elL e ++ R) = elT e ++ R.flatMap fun w => if w = [59] then [59] else 32 :: w := by
  have hw := elL_wd e
  unfold elT
  cases h : elL e with
  | nil => exact absurd h (elL_ne e)
  | cons a r =>
    rw [h] at hw
    rw [List.cons_append, dueW_cons, join_cons, List.flatMap_append, List.append_assoc]
    congr 2
    have : ∀ l : List (List Nat), (∀ w ∈ l, Wd w) → (l.flatMap fun w => if w = [59] then [59] else 32 :: w) = l.flatMap fun w => [32] ++ w := fun l => by
      induction l with
      | nil => intro _; rfl
      | cons x l ih =>
        intro hl
        rw [List.flatMap_cons, List.flatMap_cons, ih (fun w h => hl w (List.mem_cons_of_mem _ h)), if_neg (wd_ne (hl x List.mem_cons_self))]
        rfl
    exact this r (fun w h => hw w (List.mem_cons_of_mem _ h))
theorem trR_due (es : List El) : ((trR es).flatMap fun w => if w = [59] then [59] else 32 :: w) = (es.map elT).flatMap fun w => [59, 32] ++ w := by
  induction es with
  | nil => rfl
  | cons e r ih =>
    have e0 : trR (e :: r) = [59] :: (elL e ++ trR r) := rfl
    rw [e0, List.flatMap_cons, if_pos rfl, List.map_cons, List.flatMap_cons, ← ih]
    have := elT_due e (trR r)
    cases h : elL e with
    | nil => exact absurd h (elL_ne e)
    | cons a s =>
      rw [h, List.cons_append, dueW_cons] at this
      have ha := elL_wd e a (by rw [h]; exact List.mem_cons_self)
      have hs : (if a = [59] then [59] else 32 :: a) = 32 :: a := if_neg (wd_ne ha)
      show 59 :: ((if a = [59] then [59] else 32 :: a) ++ _) = _
      rw [hs]
      have : 59 :: 32 :: (a ++ ((s ++ trR r).flatMap fun w => if w = [59] then [59] else 32 :: w)) = 59 :: 32 :: (elT e ++ ((trR r).flatMap fun w => if w = [59] then [59] else 32 :: w)) := by rw [this]
      exact this
theorem trT_due (es : List El) : trT es = dueW (trL es) := by
  unfold trT
  cases es with
  | nil => rfl
  | cons e r =>
    rw [List.map_cons, join_cons]
    show _ = dueW (elL e ++ trR r)
    rw [elT_due, trR_due]
theorem toks_trT (es : List El) : toksF (trT es) = trL es := by
  rw [trT_due]
  exact due_toks (trL_sp es)
theorem parse_of {l : List Nat} {es : List El} (h : toksF l = trL es) (hb : ∀ e ∈ es, NBe e) (hg : judgeE es = false) : parseF l = .good es := by
  unfold parseF
  rw [h, pTrain_w hb]
  dsimp only
  rw [hg, if_neg (by decide)]
end X
end PG

set_option maxRecDepth 100000
set_option maxHeartbeats 4000000

namespace PG
open PySem PySem.Spec PyProof.Rows L2 RT S
namespace X
section
variable {b : RT.OS} {st : List Cell} {l : List Nat} {QO : Vl → List Cell → RT.OS → Prop} {Ex : EXS}
end
end X
end PG

set_option maxRecDepth 100000
set_option maxHeartbeats 4000000

namespace PG
open PySem PySem.Spec PyProof.Rows L2 RT S
namespace X
section
variable {st : List Cell} {Q : Vl → List Cell → Prop}
end
end X
end PG

set_option maxRecDepth 100000
set_option maxHeartbeats 4000000

namespace PG
open PySem PySem.Spec PyProof.Rows L2 RT S
namespace X
section
variable {a b t : DE} {m : M} {x y z d : Dt} {w v : List Nat}
theorem ev_lst2 (ha : Ev a m x) (hb : Ev b m y) : Ev (dLst (dCons a (dCons b dNil))) m (.lst [x, y]) := fun K h => ha _ (hb _ ⟨lineN rfl, h⟩)
end
section
variable {sl : List (Option Vl)} {pre : List Cell} {W : List (List Nat)} {E : DEnds} {ie : Nat} {e : El}
end
theorem optL_len (w : List Nat) (o : Option Rat) : (optL w o).length ≤ 2 := by cases o <;> simp [optL]
theorem elL_len (e : El) : (elL e).length ≤ 5 := by
  cases e with
  | gap g => exact Nat.le_of_ble_eq_true rfl
  | prism g => exact Nat.le_of_ble_eq_true rfl
  | afocal g => exact Nat.le_of_ble_eq_true rfl
  | lens p c =>
    have := optL_len wAt (ctr c)
    show (wLens :: numW p :: optL wAt (ctr c)).length ≤ 5
    rw [List.length_cons, List.length_cons]
    omega
  | stop lo hi =>
    have a := optL_len wFrom lo
    have b := optL_len wTo hi
    show (wStop :: (optL wFrom lo ++ optL wTo hi)).length ≤ 5
    rw [List.length_cons, List.length_append]
    omega
theorem optL_wl {w : List Nat} (hw : w.length ≤ 20) {o : Option Rat} (ho : NBo o) : ∀ v ∈ optL w o, v.length ≤ 20 := fun v hv => by
  cases o with
  | none => cases hv
  | some x =>
    rcases List.mem_cons.mp hv with rfl | hv
    · exact hw
    · rw [List.mem_singleton.mp hv]
      exact numW_len (ho x rfl).1 (ho x rfl).2
theorem ctr_nb {c : Rat} (h : NB c) : NBo (ctr c) := fun x hx => by
  unfold ctr at hx
  split at hx <;> cases hx
  exact h
theorem elL_wl {e : El} (h : NBe e) : ∀ w ∈ elL e, w.length ≤ 20 := fun w hw => by
  have two : ∀ (u : List Nat) (x : Rat), u.length ≤ 20 → NB x → w ∈ [u, numW x] → w.length ≤ 20 := fun u x hu hx h => by
    rcases List.mem_cons.mp h with rfl | h
    · exact hu
    · rw [List.mem_singleton.mp h]
      exact numW_len hx.1 hx.2
  cases e with
  | gap g => exact two _ _ (by decide) h hw
  | prism g => exact two _ _ (by decide) h hw
  | afocal g => exact two _ _ (by decide) h hw
  | lens p c =>
    rcases List.mem_cons.mp hw with rfl | hw
    · decide
    · rcases List.mem_cons.mp hw with rfl | hw
      · exact numW_len h.1.1 h.1.2
      · exact optL_wl (by decide) (ctr_nb h.2) w hw
  | stop lo hi =>
    rcases List.mem_cons.mp hw with rfl | hw
    · decide
    · rcases List.mem_append.mp hw with hw | hw
      · exact optL_wl (by decide) h.1 w hw
      · exact optL_wl (by decide) h.2 w hw
end X
end PG

set_option maxRecDepth 100000
set_option maxHeartbeats 4000000

namespace PG
open PySem PySem.Spec PyProof.Rows L2 RT S
namespace X
end X
end PG

set_option maxRecDepth 100000
set_option maxHeartbeats 4000000

namespace PG
open PySem PySem.Spec PyProof.Rows L2 RT S
namespace X
section
variable {st : List Cell} {Q : Vl → List Cell → Prop}
end
end X
end PG

set_option maxRecDepth 100000
set_option maxHeartbeats 4000000

namespace PG
open PySem PySem.Spec PyProof.Rows L2 RT S
namespace X
theorem elT_len {e : El} (h : NBe e) : (elT e).length ≤ 200 := by
  have key : ∀ W : List (List Nat), (∀ w ∈ W, w.length ≤ 20) → (TL.joinL [32] W).length ≤ 21 * W.length := fun W => by
    cases W with
    | nil => intro _; exact Nat.le_refl _
    | cons a r =>
      intro hW
      rw [join_cons, List.length_append, List.length_cons]
      have : ∀ r : List (List Nat), (∀ w ∈ r, w.length ≤ 20) → (r.flatMap fun w => [32] ++ w).length ≤ 21 * r.length := fun r => by
        induction r with
        | nil => intro _; exact Nat.le_refl _
        | cons b r ih =>
          intro hr
          have h1 := hr b List.mem_cons_self
          have h2 := ih (fun w h => hr w (List.mem_cons_of_mem _ h))
          rw [List.flatMap_cons, List.length_append, List.length_append, List.length_cons, List.length_cons, List.length_nil]
          omega
      have h1 := hW a List.mem_cons_self
      have h2 := this r (fun w h => hW w (List.mem_cons_of_mem _ h))
      omega
  have := key (elL e) (elL_wl h)
  have := elL_len e
  unfold elT
  omega
section
variable {st : List Cell} {Q : Vl → List Cell → Prop} {e : El}
end
end X
end PG

set_option maxRecDepth 100000
set_option maxHeartbeats 4000000

namespace PG
open PySem PySem.Spec PyProof.Rows L2 RT S
namespace X
section
variable {st : List Cell} {Q : Vl → List Cell → Prop}
end
end X
end PG

set_option maxRecDepth 100000
set_option maxHeartbeats 4000000

namespace PG
open PySem PySem.Spec PyProof.Rows L2 RT S
namespace X
def ElG (e : El) : Prop := ElIn e ∧ goodE e = true
section
variable {ds : List Int} {i k : Nat} {st : List Cell} {Q : Vl → List Cell → Prop}
end
theorem judge_no {es : List El} (hl : es.length ≤ 8) (hg : ∀ e ∈ es, goodE e = true) : judgeE es = false := by
  unfold judgeE
  have h1 : (es.filter stB).length ≤ es.length := List.length_filter_le _ _
  rw [decide_eq_false (by omega), decide_eq_false (by omega), List.all_eq_true.mpr hg]
  rfl
end X
end PG

set_option maxRecDepth 100000
set_option maxHeartbeats 4000000

namespace PG
open PySem PySem.Spec PyProof.Rows L2 RT S
namespace X
def Tv (c : DT) (m : M) (b : Bool) : Prop := ∀ K : Bool → M → Prop, K b m → c m K
section
variable {c d : DT} {m : M} {p q : Bool} {t u : DE} {x y : Dt} {w v : List Nat}
theorem tv_test (h : Ev t m (.bl p)) : Tv (dTest t) m p := fun K hK => ev_test h hK
theorem tv_not (h1 : Tv c m p) : Tv (dNot c) m (!p) := fun K hK => h1 _ hK
theorem ev_gti {i j : Int} (h1 : Ev t m (.int i)) (h2 : Ev u m (.int j)) : Ev (dOp RT.rGt t u) m (.bl (decide (j < i))) := ev_op (x := .int i) (y := .int j) (fun P hP => ⟨trivial, hP⟩) h1 h2
theorem ret_evK {E : DEnds} (h : Ev t m x) (hk : E.rt (.d x) m) : dRet t E m := h _ hk
theorem ev_lst1 (ha : Ev t m x) : Ev (dLst (dCons t dNil)) m (.lst [x]) := fun K h => ha _ ⟨lineN rfl, h⟩
theorem ev_tup2 (ha : Ev t m x) (hb : Ev u m y) : Ev (dTup (dCons t (dCons u dNil))) m (.tup [x, y]) := fun K h => ha _ (hb _ ⟨lineN rfl, h⟩)
end
theorem trL_all {P : List Nat → Prop} (h59 : P [59]) {es : List El} (h : ∀ e ∈ es, ∀ w ∈ elL e, P w) : ∀ w ∈ trL es, P w := fun w hw => by
  cases es with
  | nil => cases hw
  | cons e r =>
    rcases List.mem_append.mp hw with hw | hw
    · exact h e List.mem_cons_self w hw
    · obtain ⟨f, hf, hw⟩ := List.mem_flatMap.mp hw
      rcases List.mem_cons.mp hw with rfl | hw
      · exact h59
      · exact h f (List.mem_cons_of_mem _ hf) w hw
section
variable {st : List Cell} {Q : Vl → List Cell → Prop} {l : List Nat}
end
end X
end PG

set_option maxRecDepth 100000
set_option maxHeartbeats 4000000

namespace PG
open PySem PySem.Spec PyProof.Rows L2 RT S
namespace X
theorem trT_one (e : El) : trT [e] = elT e := rfl
theorem elT_ne (e : El) : elT e ≠ [] := fun h => by
  have := elT_due e []
  rw [List.append_nil, h] at this
  have h2 := due_toks (W := elL e) (fun w hw => .inr (elL_wd e w hw))
  rw [this] at h2
  exact elL_ne e h2.symm
end X
end PG

set_option maxRecDepth 100000
set_option maxHeartbeats 4000000

namespace PG
open PySem PySem.Spec PyProof.Rows L2 RT S
namespace X
def signsL : List Nat := [48, 49, 50, 51, 52, 53, 54, 55, 56, 57, 97, 98, 99, 100, 101, 102, 103, 104, 105, 106, 107, 108, 109, 110, 111, 112, 113, 114, 115, 116, 117, 118, 119, 120, 121, 122, 32, 45, 47, 59]
theorem v_signs : v_SIGNS = wD signsL := by
  unfold v_SIGNS wD
  rw [show ("0123456789abcdefghijklmnopqrstuvwxyz -/;" : Str) = Sx signsL by decide +kernel]
theorem signs_asc : Asc signsL := by
  unfold Asc
  decide
inductive Opn where
  | put (i : Nat) (e : El) | take (i : Nat) | exch (i : Nat) (e : El) | undo
def bodyL : Opn → List Nat
  | .put i e => [1, i] ++ elT e
  | .take i => [2, i]
  | .exch i e => [3, i] ++ elT e
  | .undo => [4]
def frame (b : List Nat) : List Nat := [b.length / 256, b.length % 256] ++ b ++ [b.sum % 256, 170]
def recL (o : Opn) : List Nat := frame (bodyL o)
def OpOk : Opn → Prop
  | .put i e => i ≤ 255 ∧ NBe e ∧ goodE e = true
  | .take i => i ≤ 255
  | .exch i e => i ≤ 255 ∧ NBe e ∧ goodE e = true
  | .undo => True
def elOf (l : List Nat) : Option El := if l.all (fun c => decide (c ∈ signsL)) = true then (match parseF l with
  | .good [e] => if elT e = l then some e else none
  | _ => none) else none
def opOf (b : List Nat) : Option Opn := if b = [4] then some .undo else match b with
  | [a, i] => if a = 2 then some (.take i) else none
  | a :: i :: c :: r => if a = 1 then (elOf (c :: r)).map (.put i) else if a = 3 then (elOf (c :: r)).map (.exch i) else none
  | _ => none
def first (l : List Nat) : Option (Opn × Nat) := match l with
  | a :: b :: r => if r.length < a * 256 + b + 2 then none else
    if r[a * 256 + b + 1]? = some 170 ∧ r[a * 256 + b]? = some ((r.take (a * 256 + b)).sum % 256) then (opOf (r.take (a * 256 + b))).map fun o => (o, a * 256 + b + 4) else none
  | _ => none
def recGo (l : List Nat) : Nat → List Opn → Nat → List Opn × Nat
  | 0, acc, p => (acc, p)
  | n + 1, acc, p => match first (l.drop p) with
    | none => (acc, p)
    | some (o, k) => recGo l n (acc ++ [o]) (p + k)
def recF (l : List Nat) : List Opn × Nat := recGo l (l.length + 1) [] 0
theorem mem_signs {c : Nat} : c ∈ signsL ↔ (48 ≤ c ∧ c ≤ 57) ∨ (97 ≤ c ∧ c ≤ 122) ∨ c = 32 ∨ c = 45 ∨ c = 47 ∨ c = 59 := by
  unfold signsL
  simp only [List.mem_cons, List.not_mem_nil, or_false]
  omega
theorem numW_sg (x : Rat) : ∀ c ∈ numW x, c ∈ signsL := fun c hc => by
  rw [mem_signs]
  unfold numW at hc
  have iz : ∀ c ∈ intZ x.num, c = 45 ∨ (48 ≤ c ∧ c ≤ 57) := fun c hc => by
    unfold intZ at hc
    split at hc
    · rcases List.mem_cons.mp hc with rfl | hc
      · exact .inl rfl
      · exact .inr (natL_dig _ c hc)
    · exact .inr (natL_dig _ c hc)
  split at hc
  · have := iz c hc
    omega
  · rcases List.mem_append.mp hc with hc | hc
    · rcases List.mem_append.mp hc with hc | hc
      · have := iz c hc
        omega
      · rw [List.mem_singleton.mp hc]
        omega
    · have := natL_dig _ c hc
      omega
theorem optL_sg {w : List Nat} (hw : ∀ c ∈ w, c ∈ signsL) (o : Option Rat) : ∀ v ∈ optL w o, ∀ c ∈ v, c ∈ signsL := fun v hv => by
  cases o with
  | none => cases hv
  | some x =>
    rcases List.mem_cons.mp hv with rfl | hv
    · exact hw
    · rw [List.mem_singleton.mp hv]
      exact numW_sg x
theorem elL_sg (e : El) : ∀ w ∈ elL e, ∀ c ∈ w, c ∈ signsL := fun w hw => by
  have two : ∀ (u : List Nat) (x : Rat), (∀ c ∈ u, c ∈ signsL) → w ∈ [u, numW x] → ∀ c ∈ w, c ∈ signsL := fun u x hu h => by
    rcases List.mem_cons.mp h with rfl | h
    · exact hu
    · rw [List.mem_singleton.mp h]
      exact numW_sg x
  cases e with
  | gap g => exact two _ _ (by decide) hw
  | prism g => exact two _ _ (by decide) hw
  | afocal g => exact two _ _ (by decide) hw
  | lens p c =>
    rcases List.mem_cons.mp hw with rfl | hw
    · decide
    · rcases List.mem_cons.mp hw with rfl | hw
      · exact numW_sg p
      · exact optL_sg (by decide) _ w hw
  | stop lo hi =>
    rcases List.mem_cons.mp hw with rfl | hw
    · decide
    · rcases List.mem_append.mp hw with hw | hw
      · exact optL_sg (by decide) _ w hw
      · exact optL_sg (by decide) _ w hw
theorem dueW_sg {W : List (List Nat)} (h : ∀ w ∈ W, ∀ c ∈ w, c ∈ signsL) : ∀ c ∈ dueW W, c ∈ signsL := by
  cases W with
  | nil => exact fun c hc => nomatch hc
  | cons a r =>
    intro c hc
    rcases List.mem_append.mp hc with hc | hc
    · exact h a List.mem_cons_self c hc
    · obtain ⟨w, hw, hc⟩ := List.mem_flatMap.mp hc
      have := h w (List.mem_cons_of_mem _ hw)
      split at hc
      · rw [List.mem_singleton.mp hc]
        decide
      · rcases List.mem_cons.mp hc with rfl | hc
        · decide
        · exact this c hc
theorem trT_sg (es : List El) : ∀ c ∈ trT es, c ∈ signsL := by
  rw [trT_due]
  exact dueW_sg (trL_all (by decide) fun e _ => elL_sg e)
theorem elT_sg (e : El) : ∀ c ∈ elT e, c ∈ signsL := trT_sg [e]
theorem judge_one {e : El} (hg : goodE e = true) : judgeE [e] = false := judge_no (Nat.le_of_ble_eq_true rfl) fun x hx => by
  rw [List.mem_singleton.mp hx]
  exact hg
theorem elOf_elT {e : El} (hb : NBe e) (hg : goodE e = true) : elOf (elT e) = some e := by
  unfold elOf
  rw [if_pos (List.all_eq_true.mpr fun c hc => decide_eq_true (elT_sg e c hc))]
  have : parseF (elT e) = .good [e] := parse_of (es := [e]) (by
    rw [← trT_one]
    exact toks_trT [e]) (fun x hx => by rw [List.mem_singleton.mp hx]; exact hb) (judge_one hg)
  rw [this]
  dsimp only
  rw [if_pos rfl]
theorem opOf_three (a i c : Nat) (r : List Nat) : opOf (a :: i :: c :: r) = if a = 1 then (elOf (c :: r)).map (.put i) else if a = 3 then (elOf (c :: r)).map (.exch i) else none := by
  unfold opOf
  rw [if_neg (by simp)]
theorem opOf_body {o : Opn} (h : OpOk o) : opOf (bodyL o) = some o := by
  have ne : ∀ (a i : Nat) (e : El), ∃ c r, [a, i] ++ elT e = a :: i :: c :: r ∧ c :: r = elT e := fun a i e => by
    cases he : elT e with
    | nil => exact absurd he (elT_ne e)
    | cons c r => exact ⟨c, r, rfl, rfl⟩
  cases o with
  | undo => exact if_pos rfl
  | take i => rfl
  | put i e =>
    obtain ⟨c, r, e1, e2⟩ := ne 1 i e
    show opOf ([1, i] ++ elT e) = _
    rw [e1, opOf_three, if_pos rfl, e2, elOf_elT h.2.1 h.2.2]
    rfl
  | exch i e =>
    obtain ⟨c, r, e1, e2⟩ := ne 3 i e
    show opOf ([3, i] ++ elT e) = _
    rw [e1, opOf_three, if_neg (by decide), if_pos rfl, e2, elOf_elT h.2.1 h.2.2]
    rfl
theorem frame_eq (b r : List Nat) : frame b ++ r = (b.length / 256) :: (b.length % 256) :: (b ++ (b.sum % 256 :: 170 :: r)) := by
  unfold frame
  simp
theorem first_frame (b r : List Nat) : first (frame b ++ r) = (opOf b).map fun o => (o, b.length + 4) := by
  rw [frame_eq]
  unfold first
  dsimp only
  have e : b.length / 256 * 256 + b.length % 256 = b.length := by omega
  rw [e, if_neg (by
    rw [List.length_append, List.length_cons, List.length_cons]
    omega)]
  have t : (b ++ (b.sum % 256 :: 170 :: r)).take b.length = b := List.take_left
  rw [t, if_pos]
  refine ⟨?_, ?_⟩
  · rw [List.getElem?_append_right (by omega), show b.length + 1 - b.length = 1 by omega]
    rfl
  · rw [List.getElem?_append_right (Nat.le_refl _), Nat.sub_self]
    rfl
theorem frame_len (b : List Nat) : (frame b).length = b.length + 4 := by
  unfold frame
  simp
theorem recGo_all (pre : List Nat) : ∀ (os : List Opn) (n : Nat) (acc : List Opn) (r : List Nat), (∀ o ∈ os, OpOk o) → first r = none → os.length < n →
    recGo (pre ++ os.flatMap recL ++ r) n acc pre.length = (acc ++ os, pre.length + (os.flatMap recL).length)
  | [], n, acc, r, _, hr, hn => by
    obtain ⟨n, rfl⟩ : ∃ k, n = k + 1 := ⟨n - 1, by simp at hn; omega⟩
    unfold recGo
    have : (pre ++ [].flatMap recL ++ r).drop pre.length = r := by simp
    rw [this, hr]
    simp
  | o :: os, n, acc, r, ho, hr, hn => by
    rw [List.length_cons] at hn
    obtain ⟨n, rfl⟩ : ∃ k, n = k + 1 := ⟨n - 1, by omega⟩
    unfold recGo
    have e : (pre ++ (o :: os).flatMap recL ++ r).drop pre.length = frame (bodyL o) ++ (os.flatMap recL ++ r) := by
      rw [List.flatMap_cons]
      simp [recL]
    rw [e, first_frame, opOf_body (ho o List.mem_cons_self)]
    show recGo _ n (acc ++ [o]) (pre.length + ((bodyL o).length + 4)) = _
    have := recGo_all (pre ++ recL o) os n (acc ++ [o]) r (fun x hx => ho x (List.mem_cons_of_mem _ hx)) hr (by omega)
    have hl : (recL o).length = (bodyL o).length + 4 := frame_len _
    rw [List.length_append, hl] at this
    have e2 : pre ++ (o :: os).flatMap recL ++ r = pre ++ recL o ++ os.flatMap recL ++ r := by
      rw [List.flatMap_cons]
      simp
    rw [e2, this, List.flatMap_cons, List.length_append, hl]
    simp only [List.append_assoc, List.singleton_append, Nat.add_assoc]
theorem recF_all {os : List Opn} {r : List Nat} (ho : ∀ o ∈ os, OpOk o) (hr : first r = none) : recF (os.flatMap recL ++ r) = (os, (os.flatMap recL).length) := by
  have h1 : os.length ≤ (os.flatMap recL).length := by
    clear ho
    induction os with
    | nil => exact Nat.zero_le _
    | cons o os ih =>
      rw [List.flatMap_cons, List.length_append, List.length_cons]
      have : (recL o).length = (bodyL o).length + 4 := frame_len _
      omega
  have := recGo_all [] os ((os.flatMap recL ++ r).length + 1) [] r ho hr (by
    rw [List.length_append]
    omega)
  rw [List.nil_append, List.nil_append] at this
  unfold recF
  rw [List.length_nil, Nat.zero_add] at this
  exact this
end X
end PG

set_option maxRecDepth 100000
set_option maxHeartbeats 4000000

namespace PG
open PySem PySem.Spec PyProof.Rows L2 RT S
namespace X
def nmO : Opn → Str
  | .put _ _ => "put" | .take _ => "take" | .exch _ _ => "exchange" | .undo => "undo"
theorem shO (o : Opn) : shD (.str (nmO o)) := by
  cases o
  · exact shS (by show PyData.canLay0 (.str ("put" : Str)) = true; decide +kernel)
  · exact shS (by show PyData.canLay0 (.str ("take" : Str)) = true; decide +kernel)
  · exact shS (by show PyData.canLay0 (.str ("exchange" : Str)) = true; decide +kernel)
  · exact shS (by show PyData.canLay0 (.str ("undo" : Str)) = true; decide +kernel)
theorem s_undo : shD (.str ("undo" : Str)) := shO .undo
theorem s_take : shD (.str ("take" : Str)) := shO (.take 0)
theorem s_exch : shD (.str ("exchange" : Str)) := shS (by decide +kernel)
theorem s_put : shD (.str ("put" : Str)) := shS (by decide +kernel)
section
variable {a b t : DE} {m : M} {x y z d : Dt} {o : Opn}
end
section
variable {st : List Cell} {Q : Vl → List Cell → Prop} {o : Opn}
theorem bodyL_len {o : Opn} (h : OpOk o) : 1 ≤ (bodyL o).length ∧ (bodyL o).length ≤ 202 := by
  cases o with
  | undo => exact ⟨Nat.le_refl _, by decide⟩
  | take i => exact ⟨by show 1 ≤ 2; decide, by show 2 ≤ 202; decide⟩
  | put i e =>
    have := elT_len h.2.1
    show 1 ≤ ([1, i] ++ elT e).length ∧ _
    rw [show (bodyL (.put i e)).length = ([1, i] ++ elT e).length from rfl, List.length_append]
    exact ⟨by show 1 ≤ 2 + _; omega, by show 2 + _ ≤ 202; omega⟩
  | exch i e =>
    have := elT_len h.2.1
    show 1 ≤ ([3, i] ++ elT e).length ∧ _
    rw [show (bodyL (.exch i e)).length = ([3, i] ++ elT e).length from rfl, List.length_append]
    exact ⟨by show 1 ≤ 2 + _; omega, by show 2 + _ ≤ 202; omega⟩
end
end X
end PG

set_option maxRecDepth 100000
set_option maxHeartbeats 4000000

namespace PG
open PySem PySem.Spec PyProof.Rows L2 RT S
namespace X
def sgD (c : Nat) : Dt := if c ∈ signsL then wD [c] else .non
theorem ev_ord {m : M} {t : DE} {c : Nat} (h : Ev t m (wD [c])) : Ev (dBi bOrd (dCons t dNil)) m (.int (c : Int)) := ev_bi (x := wD [c]) (fun P hP => ⟨by rw [SX.S_len]; rfl, hP⟩) h
section
variable {st : List Cell} {Q : Vl → List Cell → Prop}
theorem sign_ok {c : Nat} (hQ : Q (.d (sgD c)) st) : sp_sign_of [.d (.int c)] st Q := by
  unfold sp_sign_of
  refine ⟨rfl, ?_⟩
  refine seq_mid (fun m => c ∉ signsL ∧ m.st = st) (fun K hK => ?_) ?_
  · unfold dFor dSgn dC
    rw [v_signs]
    show dLoop (.nm 1) _ (RT.signs (Sx signsL)) none _ (RT.signs (Sx signsL)) _
    rw [signs_Sx]
    refine each_inv (lk := none) (fun c => wD [c]) (fun r m => (c ∈ r ↔ c ∈ signsL) ∧ ∃ z, m = ⟨[some (.d (.int c)), z], st⟩) (fun _ _ _ => trivial) ?_ ?_ _ _ ⟨Iff.rfl, none, rfl⟩
    · rintro x r _ K' hK' ⟨hr, z, rfl⟩
      have t := tv_test (ev_eqi (m := ⟨[some (.d (.int c)), some (.d (wD [x]))], st⟩) (ev_ord (t := dVar 1) (c := x) (ev_var rfl)) (ev_var (i := 0) (d := .int c) rfl))
      by_cases e : x = c
      · subst e
        rw [decide_eq_true rfl] at t
        refine difs_yes t (ret_evK (ev_var (i := 1) (d := wD [x]) rfl) ?_)
        have : sgD x = wD [x] := if_pos (hr.mp List.mem_cons_self)
        rw [this] at hQ
        exact ret_ok (kp := false) hQ
      · rw [decide_eq_false (by omega)] at t
        refine difs_no t (hK' _ ⟨?_, _, rfl⟩)
        rw [← hr]
        exact ⟨List.mem_cons_of_mem _, fun h => (List.mem_cons.mp h).elim (fun e' => absurd e'.symm e) id⟩
    · rintro _ ⟨hr, z, rfl⟩
      exact hK _ ⟨fun h => (nomatch hr.mpr h), rfl⟩
  · rintro m ⟨h1, h2⟩
    have : sgD c = .non := if_neg h1
    rw [this] at hQ
    show Q (.d .non) (m.st.take st.length)
    rw [h2, List.take_length]
    exact hQ
end
end X
end PG

set_option maxRecDepth 100000
set_option maxHeartbeats 4000000

namespace PG
open PySem PySem.Spec PyProof.Rows L2 RT S
namespace X
section
variable {st : List Cell} {Q : Vl → List Cell → Prop}
end
end X
end PG

set_option maxRecDepth 100000
set_option maxHeartbeats 400000

namespace PG
open PySem PySem.Spec PyProof.Rows L2 RT S
namespace X
section
variable {t u : DE} {m : M} {l : List Nat}
end
section
variable {st : List Cell} {Q : Vl → List Cell → Prop}
end
end X
end PG

set_option maxRecDepth 100000
set_option maxHeartbeats 400000

namespace PG
open PySem PySem.Spec PyProof.Rows L2 RT S
namespace X
section
variable {st : List Cell} {Q : Vl → List Cell → Prop}
theorem ev_addn {t u : DE} {m : M} {i j : Nat} (h1 : Ev t m (.int i)) (h2 : Ev u m (.int j)) : Ev (dOp rAddA t u) m (.int (i + j : Nat)) := by
  rw [Int.natCast_add]
  exact ev_addi h1 h2
theorem ev_subn {t u : DE} {m : M} {i j : Nat} (h : j ≤ i) (h1 : Ev t m (.int i)) (h2 : Ev u m (.int j)) : Ev (dOp RT.rSub t u) m (.int (i - j : Nat)) := by
  rw [Int.natCast_sub h]
  exact ev_subi h1 h2
theorem ev_gtn {t u : DE} {m : M} {i j : Nat} (h1 : Ev t m (.int i)) (h2 : Ev u m (.int j)) : Ev (dOp RT.rGt t u) m (.bl (decide (j < i))) := by
  have := ev_gti h1 h2
  rw [show decide ((j : Int) < (i : Int)) = decide (j < i) from decide_eq_decide.mpr (by omega)] at this
  exact this
end
end X
end PG

set_option maxRecDepth 100000
set_option maxHeartbeats 4000000

namespace PG
open PySem PySem.Spec PyProof.Rows L2 RT S
namespace X
section
variable {ds : List Int} {i k : Nat} {st : List Cell} {Q : Vl → List Cell → Prop}
theorem stopG2_ok (hk : st[k]? = some (Bx ds i)) (hi : i < 800000) (h : ∀ (lo hi : Option Rat), ElG (.stop lo hi) → Q (.d (elD (.stop lo hi))) (st.set k (Bx ds (i + 4)))) : sp__law_stop_2 [.c k] st Q := by
  have hlt : k < st.length := (List.getElem?_eq_some_iff.mp hk).1
  have hs : ∀ c : Cell, (st.set k c)[k]? = some c := fun c => by simp [hlt]
  have hl : ∀ c : Cell, (st.set k c).length = st.length := fun c => List.length_set
  have tk' : ∀ {v : Vl} {c : Cell}, Q v (st.set k c) → Q v ((st.set k c).take st.length) := fun {v c} q => by
    rw [← hl c]
    exact tk q
  unfold sp__law_stop_2
  refine ⟨rfl, frac2_ok hk (by omega) fun l hl1 => ?_⟩
  refine draw2_ok (hs _) (by decide) (by omega) fun a a0 a1 => ?_
  rw [List.set_set]
  refine lfrac_ok (by decide) ?_
  have hd : In 12 6 (Rat.divInt a 2) := in_div (d := 2) (by decide) ⟨6, rfl⟩ (by omega)
  have zd := in_zb (b := 7) (by decide) hd (by decide) (by decide) (by decide)
  refine ladd2_ok (x := l) (y := Rat.divInt a 2) (zm (by have := hl1.zb; omega)) ?_
  have hu : In 12 12 (l + Rat.divInt a 2) := in_add hl1.in_ hd
  have hl12 : In 12 12 l := in_le (by decide) hl1.in_
  have hg : goodE (.stop (some l) (some (l + Rat.divInt a 2))) = true := by
    have h0 : 0 ≤ Rat.divInt a 2 := Rat.divInt_nonneg a0 (by decide)
    have h1 : ¬ (l + Rat.divInt a 2 < l) := by
      rw [Rat.not_lt]
      grind
    show (!decide (l + Rat.divInt a 2 < l)) = true
    rw [decide_eq_false h1]
    rfl
  generalize l + Rat.divInt a 2 = u at hu hg
  refine draw2_ok (hs _) (by decide) (by omega) fun w w0 w1 => ?_
  rw [List.set_set]
  let S : M := ⟨[some (.c k), some (.d (fr l)), some (.d (fr u)), some (.d (.int w))], st.set k (Bx ds (i + 4))⟩
  dsimp only
  by_cases c0 : w = 0
  · refine ifs_t S (fun K hK => ⟨rfl, rfl, ?_⟩) ⟨lineN rfl, tk' (h none (some u) ⟨⟨(fun q e => nomatch e), fun q e => by cases e; exact hu⟩, rfl⟩)⟩
    show K (eqD (.int w) (.int 0)) _
    rw [eqD_int, decide_eq_true c0]
    exact hK
  refine guard_st S (fun K hK => ⟨rfl, rfl, ?_⟩) ?_
  · show K (eqD (.int w) (.int 0)) _
    rw [eqD_int, decide_eq_false c0]
    exact hK
  by_cases c1 : w = 1
  · refine ifs_t S (fun K hK => ⟨rfl, rfl, ?_⟩) ⟨lineN rfl, tk' (h (some l) none ⟨⟨fun q e => by cases e; exact hl12, (fun q e => nomatch e)⟩, rfl⟩)⟩
    show K (eqD (.int w) (.int 1)) _
    rw [eqD_int, decide_eq_true c1]
    exact hK
  refine guard_st S (fun K hK => ⟨rfl, rfl, ?_⟩) ⟨lineN rfl, tk' (h (some l) (some u) ⟨⟨fun q e => by cases e; exact hl12, fun q e => by cases e; exact hu⟩, hg⟩)⟩
  show K (eqD (.int w) (.int 1)) _
  rw [eqD_int, decide_eq_false c1]
  exact hK
theorem elementG2_ok (hk : st[k]? = some (Bx ds i)) (hi : i < 700000) (h : ∀ (e : El) (j : Nat), ElG e → j ≤ i + 6 → Q (.d (elD e)) (st.set k (Bx ds j))) : sp__law_element_2 [.c k] st Q := by
  have hlt : k < st.length := (List.getElem?_eq_some_iff.mp hk).1
  have hs : ∀ c : Cell, (st.set k c)[k]? = some c := fun c => by simp [hlt]
  have hl : ∀ c : Cell, (st.set k c).length = st.length := fun c => List.length_set
  have tk' : ∀ {v : Vl} {c : Cell}, Q v (st.set k c) → Q v ((st.set k c).take st.length) := fun {v c} q => by
    rw [← hl c]
    exact tk q
  unfold sp__law_element_2
  refine ⟨rfl, draw2_ok hk (by decide) (by omega) fun w w0 w1 => ?_⟩
  let S : M := ⟨[some (.c k), some (.d (.int w))], st.set k (Bx ds (i + 1))⟩
  dsimp only
  by_cases c0 : w < 2
  · refine ifs_t S (fun K hK => ⟨trivial, ?_⟩) ?_
    · show K (decide (w < 2)) _
      rw [decide_eq_true c0]
      exact hK
    refine frac2_ok (hs _) (by omega) fun g hg => ?_
    rw [List.set_set]
    exact ⟨lineN rfl, tk' (h (.gap g) _ ⟨hg, rfl⟩ (by omega))⟩
  refine guard_st S (fun K hK => ⟨trivial, ?_⟩) ?_
  · show K (decide (w < 2)) _
    rw [decide_eq_false c0]
    exact hK
  by_cases c2 : w < 4
  · refine ifs_t S (fun K hK => ⟨trivial, ?_⟩) ?_
    · show K (decide (w < 4)) _
      rw [decide_eq_true c2]
      exact hK
    refine frac2_ok (hs _) (by omega) fun p hp => ?_
    rw [List.set_set]
    refine ⟨lineN rfl, ?_⟩
    refine frac2_ok (hs _) (by omega) fun c hc => ?_
    rw [List.set_set]
    refine ⟨slt rfl, ?_⟩
    refine draw2_ok (hs _) (by decide) (by omega) fun b b0 b1 => ?_
    rw [List.set_set]
    obtain ⟨z, e, hz⟩ := idx2 pn_zero hc b b0 b1
    refine rIx_mk e ?_
    exact ⟨lineN rfl, tk' (h (.lens p z) _ ⟨⟨hp, hz⟩, rfl⟩ (by omega))⟩
  refine guard_st S (fun K hK => ⟨trivial, ?_⟩) ?_
  · show K (decide (w < 4)) _
    rw [decide_eq_false c2]
    exact hK
  by_cases c3 : w = 4
  · refine ifs_t S (fun K hK => ⟨rfl, rfl, ?_⟩) ?_
    · show K (eqD (.int w) (.int 4)) _
      rw [eqD_int, decide_eq_true c3]
      exact hK
    refine frac2_ok (hs _) (by omega) fun g hg => ?_
    rw [List.set_set]
    exact ⟨lineN rfl, tk' (h (.prism g) _ ⟨hg, rfl⟩ (by omega))⟩
  refine guard_st S (fun K hK => ⟨rfl, rfl, ?_⟩) ?_
  · show K (eqD (.int w) (.int 4)) _
    rw [eqD_int, decide_eq_false c3]
    exact hK
  by_cases c4 : w = 5
  · refine ifs_t S (fun K hK => ⟨rfl, rfl, ?_⟩) ?_
    · show K (eqD (.int w) (.int 5)) _
      rw [eqD_int, decide_eq_true c4]
      exact hK
    refine nonzero_ok (hs _) (by omega) fun g hg hn => ?_
    rw [List.set_set]
    exact ⟨lineN rfl, tk' (h (.afocal g) _ ⟨⟨hg, hn⟩, by show (!decide (g = 0)) = true; rw [decide_eq_false hn]; rfl⟩ (by omega))⟩
  refine guard_st S (fun K hK => ⟨rfl, rfl, ?_⟩) ?_
  · show K (eqD (.int w) (.int 5)) _
    rw [eqD_int, decide_eq_false c4]
    exact hK
  refine stopG2_ok (hs _) (by omega) fun lo hi he => ?_
  rw [List.set_set]
  exact tk' (h (.stop lo hi) _ he (by omega))
end
end X
end PG

set_option maxRecDepth 100000
set_option maxHeartbeats 400000

namespace PG
open PySem PySem.Spec PyProof.Rows L2 RT S
namespace X
theorem lg_nat {n : Nat} (h : n ≤ 1000000) : Lg 0 600 (.int (n : Int)) := lg_int (by
  rw [Int.natAbs_natCast]
  have := log2_mono h
  have e : Nat.log2 1000000 = 19 := by decide
  omega)
theorem body_le {o : Opn} (h : OpOk o) : ∀ c ∈ bodyL o, c ≤ 255 := by
  have t : ∀ e : El, ∀ c ∈ elT e, c ≤ 255 := fun e c hc => by
    have := signs_asc c (elT_sg e c hc)
    omega
  cases o with
  | undo =>
    intro c hc
    rw [List.mem_singleton.mp hc]
    decide
  | take i =>
    intro c hc
    rcases List.mem_cons.mp hc with rfl | hc
    · decide
    · rw [List.mem_singleton.mp hc]
      exact h
  | put i e =>
    intro c hc
    rcases List.mem_append.mp hc with hc | hc
    · rcases List.mem_cons.mp hc with rfl | hc
      · decide
      · rw [List.mem_singleton.mp hc]
        exact h.1
    · exact t e c hc
  | exch i e =>
    intro c hc
    rcases List.mem_append.mp hc with hc | hc
    · rcases List.mem_cons.mp hc with rfl | hc
      · decide
      · rw [List.mem_singleton.mp hc]
        exact h.1
    · exact t e c hc
theorem frame_le {b : List Nat} (hb : ∀ c ∈ b, c ≤ 255) (hl : b.length ≤ 65535) : ∀ c ∈ frame b, c ≤ 255 := fun c hc => by
  unfold frame at hc
  rcases List.mem_append.mp hc with hc | hc
  · rcases List.mem_append.mp hc with hc | hc
    · rcases List.mem_cons.mp hc with rfl | hc
      · omega
      · rw [List.mem_singleton.mp hc]
        omega
    · exact hb c hc
  · rcases List.mem_cons.mp hc with rfl | hc
    · omega
    · rw [List.mem_singleton.mp hc]
      decide
theorem rec_le {o : Opn} (h : OpOk o) : ∀ c ∈ recL o, c ≤ 255 := frame_le (body_le h) (Nat.le_trans (bodyL_len h).2 (by decide))
theorem rec_len {o : Opn} (h : OpOk o) : (recL o).length ≤ 206 ∧ 5 ≤ (recL o).length := by
  have := bodyL_len h
  have e : (recL o).length = (bodyL o).length + 4 := frame_len _
  omega

section
variable (b : List Nat)
end
end X
end PG

set_option maxRecDepth 100000
set_option maxHeartbeats 400000

namespace PG
open PySem PySem.Spec PyProof.Rows L2 RT S
namespace X

end X
end PG

set_option maxRecDepth 100000
set_option maxHeartbeats 400000

namespace PG
open PySem PySem.Spec PyProof.Rows L2 RT S
namespace X
section
variable {st : List Cell} {Q : Vl → List Cell → Prop}
end
end X
end PG

set_option maxRecDepth 100000
set_option maxHeartbeats 400000

namespace PG
open PySem PySem.Spec PyProof.Rows L2 RT S
namespace X
section
variable {st : List Cell} {Q : Vl → List Cell → Prop}
end
end X
end PG

set_option maxRecDepth 100000
set_option maxHeartbeats 400000

namespace PG
open PySem PySem.Spec PyProof.Rows L2 RT S
namespace X
section
variable {st : List Cell} {Q : Vl → List Cell → Prop}
variable {ds : List Int} {i k : Nat}
end
end X
end PG

set_option maxRecDepth 100000
set_option maxHeartbeats 400000

namespace PG
open PySem PySem.Spec PyProof.Rows L2 RT S
namespace X

inductive Om where
  | put (i : Int) (e : El)
  | take (i : Int)
  | exch (i : Int) (e : El)
  | undo
def omD : Om → Dt
  | .put i e => .tup [.str ("put" : Str), .int i, elD e]
  | .take i => .tup [.str ("take" : Str), .int i]
  | .exch i e => .tup [.str ("exchange" : Str), .int i, elD e]
  | .undo => .tup [.str ("undo" : Str)]
inductive Res where
  | ok (d : Dt)
  | pos (i : Int)
  | elt (i : Int)
  | full
def trD (es : List El) : Dt := .lst (es.map elD)
def curB (ini : List El) (lat : List (List El)) : List El := lat.getLast?.getD ini
def idxOk (i : Int) (n : Nat) : Bool := decide (0 ≤ i) && decide (i < n)
def stepB (ini : List El) (lat : List (List El)) : Om → Res × List (List El)
  | .undo => if lat = [] then (.ok (.bl false), lat) else (.ok (.bl true), lat.dropLast)
  | .put i e => if idxOk i ((curB ini lat).length + 1) = false then (.pos i, lat) else if 20 ≤ (curB ini lat).length then (.full, lat) else
      (.ok (.int ((curB ini lat).length + 1 : Nat)), lat ++ [(curB ini lat).take i.toNat ++ [e] ++ (curB ini lat).drop i.toNat])
  | .take i => if idxOk i (curB ini lat).length = false then (.elt i, lat) else
      (.ok (elD ((curB ini lat).getD i.toNat (.gap 0))), lat ++ [(curB ini lat).take i.toNat ++ (curB ini lat).drop (i.toNat + 1)])
  | .exch i e => if idxOk i (curB ini lat).length = false then (.elt i, lat) else
      (.ok (elD ((curB ini lat).getD i.toNat (.gap 0))), lat ++ [(curB ini lat).take i.toNat ++ [e] ++ (curB ini lat).drop (i.toNat + 1)])
theorem st_put {ini : List El} {lat : List (List El)} {i : Int} {e : El} : stepB ini lat (.put i e) = if idxOk i ((curB ini lat).length + 1) = false then (.pos i, lat) else if 20 ≤ (curB ini lat).length then (.full, lat) else
      (.ok (.int ((curB ini lat).length + 1 : Nat)), lat ++ [(curB ini lat).take i.toNat ++ [e] ++ (curB ini lat).drop i.toNat]) := rfl
theorem st_take {ini : List El} {lat : List (List El)} {i : Int} : stepB ini lat (.take i) = if idxOk i (curB ini lat).length = false then (.elt i, lat) else
      (.ok (elD ((curB ini lat).getD i.toNat (.gap 0))), lat ++ [(curB ini lat).take i.toNat ++ (curB ini lat).drop (i.toNat + 1)]) := rfl
theorem st_exch {ini : List El} {lat : List (List El)} {i : Int} {e : El} : stepB ini lat (.exch i e) = if idxOk i (curB ini lat).length = false then (.elt i, lat) else
      (.ok (elD ((curB ini lat).getD i.toNat (.gap 0))), lat ++ [(curB ini lat).take i.toNat ++ [e] ++ (curB ini lat).drop (i.toNat + 1)]) := rfl
theorem st_undo {ini : List El} {lat : List (List El)} : stepB ini lat .undo = if lat = [] then (.ok (.bl false), lat) else (.ok (.bl true), lat.dropLast) := rfl

def benchO (ini : List El) (kl : Nat) : OCell := .obj "Bench" [(("initial" : Str), .d (trD ini)), (("later" : Str), .c kl)]
structure BAt (os : RT.OS) (st : List Cell) (k kl : Nat) (ini : List El) (lat : List (List El)) : Prop where
  o : os.lookup k = some (benchO ini kl)
  s : st[kl]? = some (.lst (lat.map trD))
def EvC (t : DE) (m : M) (k : Nat) : Prop := ∀ K : Vl → M → Prop, K (.c k) m → t m K
section
variable {os : RT.OS} {m : M} {a b t : DE} {c f : Str} {fs : List (Str × Vl)} {k j : Nat} {d x y z : Dt} {xs : List Dt}
theorem evC_var {i : Nat} (h : m.sl[i]? = some (some (.c k))) : EvC (dVar i) m k := fun K hK => by
  unfold dVar
  rw [h]
  exact hK
theorem ev_fld (h : EvC t m k) (ho : os.lookup k = some (.obj c fs)) (hf : fs.lookup f = some (.d d)) : Ev (dFld os c f t) m d := fun K hK => h _ ⟨_, _, ho, hf, hK⟩
theorem evC_fld (h : EvC t m k) (ho : os.lookup k = some (.obj c fs)) (hf : fs.lookup f = some (.c j)) : EvC (dFld os c f t) m j := fun K hK => h _ ⟨_, _, ho, hf, hK⟩
theorem ev_opC {r : DR2} (hr : ∀ P : Dt → Prop, P z → r (.lst xs) y P) (ha : EvC a m k) (e : m.st[k]? = some (.lst xs)) (hb : Ev b m y) : Ev (dOp r a b) m z := fun K h => ha _ (hb _ (onV_c e (onV_dm (hr _ h))))
theorem ev_ixC {i : Int} (ha : EvC a m k) (e : m.st[k]? = some (.lst xs)) (hb : Ev b m (.int i)) (h : atI xs i = some z) : Ev (dOp RT.rIx a b) m z := ev_opC (y := .int i) (fun P hP => rIx_mk h hP) ha e hb
theorem ev_biC {r : DRB} (hr : ∀ P : Dt → Prop, P z → r [.lst xs] P) (ha : EvC a m k) (e : m.st[k]? = some (.lst xs)) : Ev (dBi r (dCons a dNil)) m z := fun K h => ha _ (onV_c e (hr (fun z => K (.d z) m) h))
theorem ev_lenC (ha : EvC a m k) (e : m.st[k]? = some (.lst xs)) : Ev (dBi bLen (dCons a dNil)) m (.int (xs.length : Nat)) := ev_biC (fun P hP => hP) ha e
theorem tv_truC (ha : EvC a m k) (e : m.st[k]? = some (.lst xs)) : Tv (dTru a) m (!xs.isEmpty) := fun K hK => ha _ (onV_c e hK)
theorem jv_neg {i : Int} (h : Ev t m (.int i)) : Ev (rU rNeg t) m (.int (-i)) := fun K hK => h _ hK
theorem jv_list (h : Ev t m (.lst xs)) : Ev (dBi bList (dCons t dNil)) m (.lst xs) := ev_bi (x := .lst xs) (fun P hP => hP) h
theorem jv_len (h : Ev t m (.lst xs)) : Ev (dBi bLen (dCons t dNil)) m (.int (xs.length : Nat)) := ev_bi (x := .lst xs) (fun P hP => hP) h
theorem jv_gei {i j : Int} (h1 : Ev a m (.int i)) (h2 : Ev b m (.int j)) : Ev (dOp RT.rGe a b) m (.bl (decide (j ≤ i))) := ev_op (x := .int i) (y := .int j) (fun P hP => ⟨trivial, hP⟩) h1 h2
theorem jv_cat {xs ys : List Dt} (ha : Ev a m (.lst xs)) (hb : Ev b m (.lst ys)) (hl : xs.length + ys.length ≤ 1000000) : Ev (dOp rAddA a b) m (.lst (xs ++ ys)) := ev_op (x := .lst xs) (y := .lst ys) (fun P hP => ⟨Nat.le_of_lt (small_lt (by omega)), hP⟩) ha hb
theorem jv_chain {f g : Int → Int → Bool} {c' : DE} {i j l : Int} (ha : Ev a m (.int i)) (hb : Ev b m (.int j)) (hc : Ev c' m (.int l)) : Ev (dChainI f g a b c') m (.bl (f i j && g j l)) := fun K hK => ha _ (hb _ (by
  dsimp only
  cases e : f i j with
  | true =>
    rw [if_pos rfl]
    rw [e, Bool.true_and] at hK
    exact hc _ hK
  | false =>
    rw [if_neg Bool.false_ne_true]
    rw [e, Bool.false_and] at hK
    exact hK))
theorem jcut_to {α : Type} (f : α → Dt) (l : List α) (j : Nat) : RT.cutD (l.map f) none (some (j : Int)) = (l.take j).map f := by
  unfold RT.cutD
  rw [HT.sIx_nat, HT.sIx_none, List.length_map, ← List.map_drop, ← List.map_take]
  congr 1
  rw [List.drop_zero, Nat.sub_zero]
  by_cases h : j ≤ l.length
  · rw [Nat.min_eq_left h]
  · rw [List.take_of_length_le (by omega), List.take_of_length_le (by omega)]
theorem jcut_from {α : Type} (f : α → Dt) (l : List α) (i : Nat) : RT.cutD (l.map f) (some (i : Int)) none = (l.drop i).map f := by
  unfold RT.cutD
  rw [HT.sIx_nat, HT.sIx_none, List.length_map, ← List.map_drop, ← List.map_take]
  congr 1
  by_cases h : i ≤ l.length
  · rw [Nat.min_eq_left h, List.take_of_length_le (by rw [List.length_drop]; omega)]
  · have e1 : l.drop (min i l.length) = [] := List.drop_of_length_le (by omega)
    have e2 : l.drop i = [] := List.drop_of_length_le (by omega)
    rw [e1, e2, List.take_nil]
theorem jv_slT {α : Type} {f : α → Dt} {l : List α} {j : Nat} (h : Ev t m (.lst (l.map f))) (ha : Ev a m (.int j)) : Ev (dSl false t dNoP (dPart a)) m (.lst ((l.take j).map f)) := fun K hK => h _ (ha _ (by
  show K (.d (.lst (RT.cutD (l.map f) none (some (j : Int))))) m
  rw [jcut_to]
  exact hK))
theorem jv_slF {α : Type} {f : α → Dt} {l : List α} {j : Nat} (h : Ev t m (.lst (l.map f))) (ha : Ev a m (.int j)) : Ev (dSl false t (dPart a) dNoP) m (.lst ((l.drop j).map f)) := fun K hK => h _ (ha _ (by
  show K (.d (.lst (RT.cutD (l.map f) (some (j : Int)) none))) m
  rw [jcut_from]
  exact hK))
theorem atI_last {xs : List Dt} (h : xs.getLast? = some z) : atI xs (-1) = some z := by
  rw [List.getLast?_eq_getElem?] at h
  have hl : xs.length - 1 < xs.length := (List.getElem?_eq_some_iff.mp h).1
  unfold atI ixN
  rw [if_neg (by omega), if_pos (by omega)]
  show xs[(((-1 : Int) + xs.length)).toNat]? = some z
  rw [show (((-1 : Int) + xs.length)).toNat = xs.length - 1 by omega]
  exact h
end
end X
end PG

set_option maxRecDepth 100000
set_option maxHeartbeats 400000

namespace PG
open PySem PySem.Spec PyProof.Rows L2 RT S
namespace X
theorem lk_ini {a b : Vl} : ([(("initial" : Str), a), (("later" : Str), b)] : List (Str × Vl)).lookup ("initial" : Str) = some a := List.lookup_cons_self
theorem lk_lat {a b : Vl} : ([(("initial" : Str), a), (("later" : Str), b)] : List (Str × Vl)).lookup ("later" : Str) = some b := by
  unfold List.lookup
  rw [show (("later" : Str) == ("initial" : Str)) = false by decide +kernel]
  exact List.lookup_cons_self
theorem lk_two {a b : Vl} {x y f : Str} (h1 : (f == x) = false) (h2 : (f == y) = false) : ([(x, a), (y, b)] : List (Str × Vl)).lookup f = none := by
  unfold List.lookup
  rw [h1]
  unfold List.lookup
  rw [h2]
  rfl
section
variable {os : RT.OS} {m : M} {c f : Str} {fs : List (Str × Vl)} {k j i : Nat} {d x y z : Dt} {xs : List Dt} {Ex : EXO} {E : DOEnds} {u : DSO}
theorem xret_ev {t : RT.OS → DE} (h : Ev (t os) m d) (hQ : E.rt (.d d) m os) : xS (fun os => dRet (t os)) Ex E m os := h _ hQ
theorem xset_ev {t : RT.OS → DE} (h : Ev (t os) m d) (hu : u Ex E ⟨m.sl.set i (some (.d d)), m.st⟩ os) : xSeq (xS fun os => dSet i (t os)) u Ex E m os := h _ hu
theorem xmeth0 {mm : Str} {sp : FSpecO} {Q : Vl → M → RT.OS → Prop} {t : RT.OS → DE} (h : EvC (t os) m k) (ho : os.lookup k = some (.obj c fs)) (hf : fs.lookup mm = none) (hs : sp [.c k] m.st os (fun r st' os' => Q r ⟨m.sl, st'⟩ os') (fun x d st' os' => Ex x d ⟨m.sl, st'⟩ os')) :
    xMeth c mm sp (xE t) xNil Ex m os Q := h _ ⟨⟨_, ho, hf⟩, hs⟩
theorem xmeth {mm : Str} {sp : FSpecO} {Q : Vl → M → RT.OS → Prop} {t : RT.OS → DE} {ts : RT.OS → DA} {vs : List Vl} (h : EvC (t os) m k) (ho : os.lookup k = some (.obj c fs)) (hf : fs.lookup mm = none) (ha : ∀ K : List Vl → M → Prop, K vs m → ts os m K)
    (hs : sp (.c k :: vs) m.st os (fun r st' os' => Q r ⟨m.sl, st'⟩ os') (fun x d st' os' => Ex x d ⟨m.sl, st'⟩ os')) : xMeth c mm sp (xE t) (xA ts) Ex m os Q := h _ ⟨⟨_, ho, hf⟩, ha _ hs⟩
theorem xset_meth0 {mm : Str} {sp : FSpecO} {t : RT.OS → DE} (h : EvC (t os) m k) (ho : os.lookup k = some (.obj c fs)) (hf : fs.lookup mm = none) (hs : sp [.c k] m.st os (fun r st' os' => u Ex E ⟨m.sl.set i (some r), st'⟩ os') (fun x d st' os' => Ex x d ⟨m.sl, st'⟩ os')) :
    xSeq (xSet i (xMeth c mm sp (xE t) xNil)) u Ex E m os := h _ ⟨⟨_, ho, hf⟩, hs⟩
theorem ja1 {t : DE} {d : Dt} (h : Ev t m d) : ∀ K : List Vl → M → Prop, K [.d d] m → dCons t dNil m K := fun K hK => h _ hK
theorem ja2 {t t' : DE} {d d' : Dt} (h : Ev t m d) (h' : Ev t' m d') : ∀ K : List Vl → M → Prop, K [.d d, .d d'] m → dCons t (dCons t' dNil) m K := fun K hK => h _ (h' _ hK)
theorem jraise {nm : Str} {t : RT.OS → DE} {n : Int} (h : Ev (t os) m (.int n)) (hn : n.natAbs ≤ 2000000) (hE : Ex nm (.int n) m os) : xRaise nm (xE t) Ex E m os := h _ ⟨by
  have := log_le (z := n) (n := 2000000) (b := 20) hn (by decide +kernel)
  omega, hE⟩
theorem xapp_ev {l : RT.OS → DE} {t : RT.OS → DE} (hl : EvC (l os) m k) (e : m.st[k]? = some (.lst xs)) (h : Ev (t os) m d) (hs : xs.length < 1000000) (hu : u Ex E ⟨m.sl, m.st.set k (.lst (xs ++ [d]))⟩ os) :
    xSeq (xS fun os => dDo (dMeth mAppend (l os) (dCons (t os) dNil))) u Ex E m os := hl _ ⟨⟨_, e⟩, h _ (onC_mk e ⟨small_lt (by omega), hu⟩)⟩
theorem xseq_fld {t : RT.OS → DE} (hs : m.sl[i]? = some (some (.c k))) (h : Ev (t os) m d) (ho : os.lookup k = some (.obj c fs)) (hl : fs.length < 900) (hu : u Ex E m (setO os k (.obj c (putV f (.d d) fs)))) : xSeq (xFld i c f (xE t)) u Ex E m os := h _ ⟨k, fs, hs, ho, hl, hu⟩
theorem xpop_ev {l : RT.OS → DE} (hl : EvC (l os) m k) (e : m.st[k]? = some (.lst xs)) (hy : xs.getLast? = some y) (hu : u Ex E ⟨m.sl, m.st.set k (.lst xs.dropLast)⟩ os) :
    xSeq (xS fun os => dDo (dMeth mPop (l os) dNil)) u Ex E m os := hl _ ⟨⟨_, e⟩, onC_mk e (by
  show onO xs.getLast? _
  rw [hy]
  exact hu)⟩
end
section
variable {os b : RT.OS} {st : List Cell} {k kl : Nat} {ini : List El} {lat : List (List El)} {QO : Vl → List Cell → RT.OS → Prop} {Ex : EXS}
theorem cur_none (h : lat = []) : curB ini lat = ini := by rw [h]; rfl
theorem trl_last (hl : lat ≠ []) : (lat.map trD).getLast? = some (trD (curB ini lat)) := by
  unfold curB
  rw [List.getLast?_map, List.getLast?_eq_some_getLast hl]
  rfl
theorem btrain_ok (B : BAt os st k kl ini lat) (h : QO (.d (trD (curB ini lat))) st os) : sp_Bench_train [.c k] st os QO Ex := by
  unfold sp_Bench_train
  refine ⟨rfl, ?_⟩
  let m0 : M := ⟨[some (.c k)], st⟩
  have v0 : EvC (dVar 0) m0 k := evC_var rfl
  have t0 : Tv (dTru (dFld os "Bench" "later" (dVar 0))) m0 (!(lat.map trD).isEmpty) := tv_truC (evC_fld v0 B.o lk_lat) B.s
  by_cases hl : lat = []
  · rw [hl] at t0
    refine xguardF m0 t0 ?_
    rw [cur_none hl] at h
    exact xret_ev (jv_list (ev_fld v0 B.o lk_ini)) h
  · have e : (!(lat.map trD).isEmpty) = true := by
      cases lat with
      | nil => exact absurd rfl hl
      | cons a r => rfl
    rw [e] at t0
    refine xthenF m0 t0 ?_
    exact (jv_list (ev_ixC (evC_fld v0 B.o lk_lat) B.s (jv_neg (ev_c (.int 1))) (atI_last (trl_last hl)))) _ h
theorem bops_ok (B : BAt os st k kl ini lat) (h : QO (.d (.int (lat.length : Nat))) st os) : sp_Bench_operations [.c k] st os QO Ex := by
  unfold sp_Bench_operations
  refine ⟨rfl, ?_⟩
  have := ev_lenC (m := ⟨[some (.c k)], st⟩) (evC_fld (evC_var (i := 0) rfl) B.o lk_lat) B.s
  rw [List.length_map] at this
  exact xret_ev this h
end
end X
end PG

set_option maxRecDepth 100000
set_option maxHeartbeats 400000

namespace PG
open PySem PySem.Spec PyProof.Rows L2 RT S
namespace X
def resQ (r : Res) (QO : Vl → List Cell → RT.OS → Prop) (Ex : EXS) (st : List Cell) (os : RT.OS) : Prop := match r with
  | .ok d => QO (.d d) st os
  | .pos i => Ex "NoSuchPosition" (.int i) st os
  | .elt i => Ex "NoSuchElement" (.int i) st os
  | .full => Ex "TrainFull" .non st os
def stK (kl : Nat) (lat : List (List El)) (st : List Cell) : List Cell := st.set kl (.lst (lat.map trD))
theorem set_id' {st : List Cell} {k : Nat} {c : Cell} (h : st[k]? = some c) : st.set k c = st := by
  refine List.ext_getElem? fun j => ?_
  rw [List.getElem?_set]
  have hl := (List.getElem?_eq_some_iff.mp h).1
  by_cases e : k = j
  · rw [if_pos e, if_pos hl, ← e, h]
  · rw [if_neg e]
theorem map_snoc (lat : List (List El)) (t : List El) : lat.map trD ++ [trD t] = (lat ++ [t]).map trD := by rw [List.map_append]; rfl
section
variable {os b : RT.OS} {st : List Cell} {k kl : Nat} {ini : List El} {lat : List (List El)} {QO : Vl → List Cell → RT.OS → Prop} {Ex : EXS} {i : Int} {e : El}
theorem BAt.same (B : BAt os st k kl ini lat) : stK kl lat st = st := set_id' B.s
theorem nat_of_idx {n : Nat} (h : idxOk i n = true) : i = (i.toNat : Int) ∧ i.toNat < n := by
  unfold idxOk at h
  rw [Bool.and_eq_true, decide_eq_true_eq, decide_eq_true_eq] at h
  omega
theorem bput_ok (B : BAt os st k kl ini lat) (hi : i.natAbs ≤ 2000000) (hc : (curB ini lat).length ≤ 20) (hl : lat.length < 1000000) (h : resQ (stepB ini lat (.put i e)).1 QO Ex (stK kl (stepB ini lat (.put i e)).2 st) os) : sp_Bench_put [.c k, .d (.int i), .d (elD e)] st os QO Ex := by
  unfold sp_Bench_put
  refine ⟨rfl, ?_⟩
  refine xset_meth0 (evC_var (i := 0) rfl) B.o (lk_two (by decide +kernel) (by decide +kernel)) ?_
  refine btrain_ok B ?_
  have hsame := B.same
  generalize hT : curB ini lat = T at hc
  let m1 : M := ⟨[some (.c k), some (.d (.int i)), some (.d (elD e)), some (.d (trD T))], st⟩
  have v3 : Ev (dVar 3) m1 (.lst (T.map elD)) := ev_var rfl
  have v1 : Ev (dVar 1) m1 (.int i) := ev_var rfl
  have n3 : Ev (dBi bLen (dCons (dVar 3) dNil)) m1 (.int (T.length : Nat)) := by
    have := jv_len v3
    rw [List.length_map] at this
    exact this
  have c1 : Tv (dNot (dTest (dChainI (fun i j => decide (i ≤ j)) (fun i j => decide (i ≤ j)) (dC (.int 0)) (dVar 1) (dBi bLen (dCons (dVar 3) dNil))))) m1 (!idxOk i (T.length + 1)) := by
    have := tv_not (tv_test (jv_chain (f := fun i j => decide (i ≤ j)) (g := fun i j => decide (i ≤ j)) (ev_c (.int 0)) v1 n3))
    rw [show ((decide ((0 : Int) ≤ i)) && decide (i ≤ (T.length : Int))) = idxOk i (T.length + 1) by
      unfold idxOk
      congr 1
      exact decide_eq_decide.mpr (by omega)] at this
    exact this
  rw [st_put, hT] at h
  by_cases c : idxOk i (T.length + 1) = false
  · rw [if_pos c] at h
    rw [c] at c1
    refine xthen m1 c1 ?_
    rw [hsame] at h
    exact jraise v1 hi h
  rw [if_neg c] at h
  have c' : idxOk i (T.length + 1) = true := by
    cases q : idxOk i (T.length + 1) with
    | true => rfl
    | false => exact absurd q c
  rw [c'] at c1
  refine xguard m1 c1 ?_
  have c2 : Tv (dTest (dOp RT.rGe (dBi bLen (dCons (dVar 3) dNil)) (dC v_MOST))) m1 (decide (20 ≤ T.length)) := by
    have := tv_test (jv_gei n3 (ev_c (.int 20)))
    rw [show decide ((20 : Int) ≤ (T.length : Int)) = decide (20 ≤ T.length) from decide_eq_decide.mpr (by omega)] at this
    exact this
  by_cases cf : 20 ≤ T.length
  · rw [if_pos cf, hsame] at h
    rw [decide_eq_true cf] at c2
    exact xthen m1 c2 h
  rw [if_neg cf] at h
  rw [decide_eq_false cf] at c2
  refine xguard m1 c2 ?_
  obtain ⟨ei, li⟩ := nat_of_idx c'
  rw [ei] at v1
  have ap : Ev (dOp rAddA (dOp rAddA (dSl false (dVar 3) dNoP (dPart (dVar 1))) (dLst (dCons (dVar 2) dNil))) (dSl false (dVar 3) (dPart (dVar 1)) dNoP)) m1 (trD (T.take i.toNat ++ [e] ++ T.drop i.toNat)) := by
    have := jv_cat (jv_cat (jv_slT (f := elD) v3 v1) (ev_lst1 (ev_var (i := 2) (d := elD e) rfl)) (by rw [List.length_map, List.length_take]; show _ + 1 ≤ _; omega)) (jv_slF (f := elD) v3 v1) (by rw [List.length_append, List.length_map, List.length_map, List.length_take, List.length_drop]; show _ + 1 + _ ≤ _; omega)
    unfold trD
    rw [List.map_append, List.map_append]
    exact this
  refine xapp_ev (evC_fld (evC_var (i := 0) rfl) B.o lk_lat) B.s ap (by rw [List.length_map]; exact hl) ?_
  rw [map_snoc]
  refine xret_ev (t := fun _ => _) (ev_addi (m := ⟨m1.sl, st.set kl (.lst ((lat ++ [T.take i.toNat ++ [e] ++ T.drop i.toNat]).map trD))⟩) (i := (T.length : Nat)) (j := 1) ?_ (ev_c _)) ?_
  · have := jv_len (m := ⟨m1.sl, st.set kl (.lst ((lat ++ [T.take i.toNat ++ [e] ++ T.drop i.toNat]).map trD))⟩) (xs := T.map elD) (ev_var (i := 3) rfl)
    rw [List.length_map] at this
    exact this
  · exact h

theorem btake_ok (B : BAt os st k kl ini lat) (hi : i.natAbs ≤ 2000000) (hc : (curB ini lat).length ≤ 20) (hl : lat.length < 1000000) (h : resQ (stepB ini lat (.take i)).1 QO Ex (stK kl (stepB ini lat (.take i)).2 st) os) : sp_Bench_take [.c k, .d (.int i)] st os QO Ex := by
  unfold sp_Bench_take
  refine ⟨rfl, ?_⟩
  refine xset_meth0 (evC_var (i := 0) rfl) B.o (lk_two (by decide +kernel) (by decide +kernel)) ?_
  refine btrain_ok B ?_
  have hsame := B.same
  generalize hT : curB ini lat = T at hc
  let m1 : M := ⟨[some (.c k), some (.d (.int i)), some (.d (trD T))], st⟩
  have v3 : Ev (dVar 2) m1 (.lst (T.map elD)) := ev_var rfl
  have v1 : Ev (dVar 1) m1 (.int i) := ev_var rfl
  have n3 : Ev (dBi bLen (dCons (dVar 2) dNil)) m1 (.int (T.length : Nat)) := by
    have := jv_len v3
    rw [List.length_map] at this
    exact this
  have c1 : Tv (dNot (dTest (dChainI (fun i j => decide (i ≤ j)) (fun i j => decide (i < j)) (dC (.int 0)) (dVar 1) (dBi bLen (dCons (dVar 2) dNil))))) m1 (!idxOk i T.length) :=
    tv_not (tv_test (jv_chain (f := fun i j => decide (i ≤ j)) (g := fun i j => decide (i < j)) (ev_c (.int 0)) v1 n3))
  rw [st_take, hT] at h
  by_cases c : idxOk i T.length = false
  · rw [if_pos c] at h
    rw [c] at c1
    refine xthen m1 c1 ?_
    rw [hsame] at h
    exact jraise v1 hi h
  rw [if_neg c] at h
  have c' : idxOk i T.length = true := by
    cases q : idxOk i T.length with
    | true => rfl
    | false => exact absurd q c
  rw [c'] at c1
  refine xguard m1 c1 ?_
  obtain ⟨ei, li⟩ := nat_of_idx c'
  have v1n : Ev (dVar 1) m1 (.int (i.toNat : Int)) := by
    rw [← ei]
    exact v1
  have ap : Ev (dOp rAddA (dSl false (dVar 2) dNoP (dPart (dVar 1))) (dSl false (dVar 2) (dPart (dOp rAddA (dVar 1) (dC (.int 1)))) dNoP)) m1 (trD (T.take i.toNat ++ T.drop (i.toNat + 1))) := by
    have := jv_cat (jv_slT (f := elD) v3 v1n) (jv_slF (f := elD) v3 (ev_addn (j := 1) v1n (ev_c _))) (by rw [List.length_map, List.length_map, List.length_take, List.length_drop]; omega)
    unfold trD
    rw [List.map_append]
    exact this
  refine xapp_ev (evC_fld (evC_var (i := 0) rfl) B.o lk_lat) B.s ap (by rw [List.length_map]; exact hl) ?_
  rw [map_snoc]
  have hz : T[i.toNat]? = some (T.getD i.toNat (.gap 0)) := by
    rw [List.getD_eq_getElem?_getD, List.getElem?_eq_getElem li]
    rfl
  refine xret_ev (t := fun _ => _) (ev_ix (xs := T.map elD) (i := (i.toNat : Int)) (ev_var (i := 2) rfl) (by rw [← ei]; exact ev_var (i := 1) rfl) (atI_map hz)) h
theorem bexch_ok (B : BAt os st k kl ini lat) (hi : i.natAbs ≤ 2000000) (hc : (curB ini lat).length ≤ 20) (hl : lat.length < 1000000) (h : resQ (stepB ini lat (.exch i e)).1 QO Ex (stK kl (stepB ini lat (.exch i e)).2 st) os) : sp_Bench_exchange [.c k, .d (.int i), .d (elD e)] st os QO Ex := by
  unfold sp_Bench_exchange
  refine ⟨rfl, ?_⟩
  refine xset_meth0 (evC_var (i := 0) rfl) B.o (lk_two (by decide +kernel) (by decide +kernel)) ?_
  refine btrain_ok B ?_
  have hsame := B.same
  generalize hT : curB ini lat = T at hc
  let m1 : M := ⟨[some (.c k), some (.d (.int i)), some (.d (elD e)), some (.d (trD T))], st⟩
  have v3 : Ev (dVar 3) m1 (.lst (T.map elD)) := ev_var rfl
  have v1 : Ev (dVar 1) m1 (.int i) := ev_var rfl
  have n3 : Ev (dBi bLen (dCons (dVar 3) dNil)) m1 (.int (T.length : Nat)) := by
    have := jv_len v3
    rw [List.length_map] at this
    exact this
  have c1 : Tv (dNot (dTest (dChainI (fun i j => decide (i ≤ j)) (fun i j => decide (i < j)) (dC (.int 0)) (dVar 1) (dBi bLen (dCons (dVar 3) dNil))))) m1 (!idxOk i T.length) :=
    tv_not (tv_test (jv_chain (f := fun i j => decide (i ≤ j)) (g := fun i j => decide (i < j)) (ev_c (.int 0)) v1 n3))
  rw [st_exch, hT] at h
  by_cases c : idxOk i T.length = false
  · rw [if_pos c] at h
    rw [c] at c1
    refine xthen m1 c1 ?_
    rw [hsame] at h
    exact jraise v1 hi h
  rw [if_neg c] at h
  have c' : idxOk i T.length = true := by
    cases q : idxOk i T.length with
    | true => rfl
    | false => exact absurd q c
  rw [c'] at c1
  refine xguard m1 c1 ?_
  obtain ⟨ei, li⟩ := nat_of_idx c'
  have v1n : Ev (dVar 1) m1 (.int (i.toNat : Int)) := by
    rw [← ei]
    exact v1
  have ap : Ev (dOp rAddA (dOp rAddA (dSl false (dVar 3) dNoP (dPart (dVar 1))) (dLst (dCons (dVar 2) dNil))) (dSl false (dVar 3) (dPart (dOp rAddA (dVar 1) (dC (.int 1)))) dNoP)) m1 (trD (T.take i.toNat ++ [e] ++ T.drop (i.toNat + 1))) := by
    have := jv_cat (jv_cat (jv_slT (f := elD) v3 v1n) (ev_lst1 (ev_var (i := 2) (d := elD e) rfl)) (by rw [List.length_map, List.length_take]; show _ + 1 ≤ _; omega)) (jv_slF (f := elD) v3 (ev_addn (j := 1) v1n (ev_c _))) (by rw [List.length_append, List.length_map, List.length_map, List.length_take, List.length_drop]; show _ + 1 + _ ≤ _; omega)
    unfold trD
    rw [List.map_append, List.map_append]
    exact this
  refine xapp_ev (evC_fld (evC_var (i := 0) rfl) B.o lk_lat) B.s ap (by rw [List.length_map]; exact hl) ?_
  rw [map_snoc]
  have hz : T[i.toNat]? = some (T.getD i.toNat (.gap 0)) := by
    rw [List.getD_eq_getElem?_getD, List.getElem?_eq_getElem li]
    rfl
  refine xret_ev (t := fun _ => _) (ev_ix (xs := T.map elD) (i := (i.toNat : Int)) (ev_var (i := 3) rfl) (by rw [← ei]; exact ev_var (i := 1) rfl) (atI_map hz)) h
theorem bundo_ok (B : BAt os st k kl ini lat) (h : resQ (stepB ini lat .undo).1 QO Ex (stK kl (stepB ini lat .undo).2 st) os) : sp_Bench_undo [.c k] st os QO Ex := by
  unfold sp_Bench_undo
  refine ⟨rfl, ?_⟩
  have hsame := B.same
  rw [st_undo] at h
  let m0 : M := ⟨[some (.c k)], st⟩
  have t0 : Tv (dNot (dTru (dFld os "Bench" "later" (dVar 0)))) m0 (!!(lat.map trD).isEmpty) := tv_not (tv_truC (evC_fld (evC_var (i := 0) rfl) B.o lk_lat) B.s)
  by_cases hl : lat = []
  · rw [if_pos hl, hsame] at h
    rw [hl] at t0
    refine xthenF m0 t0 ?_
    exact h
  · rw [if_neg hl] at h
    have e : (!!(lat.map trD).isEmpty) = false := by
      cases lat with
      | nil => exact absurd rfl hl
      | cons a r => rfl
    rw [e] at t0
    refine xguardF m0 t0 ?_
    refine xpop_ev (evC_fld (evC_var (i := 0) rfl) B.o lk_lat) B.s (trl_last (ini := ini) hl) ?_
    have e2 : (lat.map trD).dropLast = lat.dropLast.map trD := by rw [List.map_dropLast]
    rw [e2]
    exact h
end
end X
end PG

set_option maxRecDepth 100000
set_option maxHeartbeats 400000

namespace PG
open PySem PySem.Spec PyProof.Rows L2 RT S
namespace X
def nmM : Om → Str
  | .put _ _ => "put"
  | .take _ => "take"
  | .exch _ _ => "exchange"
  | .undo => "undo"
def OmOk : Om → Prop
  | .put i e => i.natAbs ≤ 100 ∧ ElG e
  | .take i => i.natAbs ≤ 100
  | .exch i e => i.natAbs ≤ 100 ∧ ElG e
  | .undo => True
theorem shM' (o : Om) : shD (.str (nmM o)) := by
  cases o
  · exact s_put
  · exact s_take
  · exact s_exch
  · exact s_undo
section
variable {m : M} {o : Om}
theorem ev_nmM {i : Nat} (h : m.sl[i]? = some (some (.d (omD o)))) : Ev (dOp RT.rIx (dVar i) (dC (.int 0))) m (.str (nmM o)) := by cases o <;> exact ev_ixt (ev_var h) (ev_c _) rfl
theorem ev_isM {i : Nat} {s : Str} (hs : shD (.str s)) (h : m.sl[i]? = some (some (.d (omD o)))) : Ev (dOp RT.rEq (dOp RT.rIx (dVar i) (dC (.int 0))) (dC (.str s))) m (.bl (decide (nmM o = s))) := ev_op (x := .str (nmM o)) (y := .str s) (fun P hP => ⟨shM' o, hs, by rw [eqS]; exact hP⟩) (ev_nmM h) (ev_c _)
end
section
variable {os b : RT.OS} {st : List Cell} {k kl : Nat} {ini : List El} {lat : List (List El)} {QO : Vl → List Cell → RT.OS → Prop} {Ex : EXS} {o : Om}
theorem bhist_ok (B : BAt os st k kl ini lat) (hl : lat.length ≤ 100000) (h : QO (.d (.lst (lat.map trD))) st os) : sp_Bench_history [.c k] st os QO Ex := by
  unfold sp_Bench_history
  refine ⟨rfl, ?_⟩
  have hE : EvC (dFld os "Bench" "later" (dVar 0)) ⟨[some (.c k), none], st⟩ kl := evC_fld (evC_var (i := 0) rfl) B.o lk_lat
  unfold w_Bench_history
  dsimp only [xS, dRet, dLc, dAny]
  refine hE _ ?_
  refine onC_mk B.s ?_
  refine lc_inv (lk := some kl) trD (fun r acc st' => st' = st ∧ ∃ rest, r = rest.map trD ∧ acc ++ rest = lat) (fun _ _ _ hI => by rw [hI.1]; exact B.s) ?_ ?_ ?_ _ [] _ ⟨rfl, lat, rfl, rfl⟩
  · rintro x r acc st' ⟨_, rest, e1, e2⟩
    have : acc.length + rest.length = lat.length := by rw [← e2, List.length_append]
    exact small_lt (by omega)
  · rintro x r acc st' P ⟨rfl, rest, e1, e2⟩ hP
    cases rest with
    | nil => cases e1
    | cons a rest =>
      injection e1 with e3 e4
      subst e3
      exact (jv_list (ev_var (i := 1) (d := trD a) rfl)) _ (hP a _ ⟨rfl, rest, e4, by rw [List.append_assoc]; exact e2⟩)
  · rintro acc st' ⟨rfl, rest, e1, e2⟩
    cases rest with
    | cons a rest => cases e1
    | nil =>
      rw [List.append_nil] at e2
      rw [e2]
      exact h
theorem binit_ok (hn : ini.length ≤ 20) (h : QO (.d .non) (st ++ [.lst []]) (setO b k (benchO ini st.length))) : sp_Bench___init__ [.c k, .d (trD ini)] st (setO b k (.obj "Bench" [])) QO Ex := by
  unfold sp_Bench___init__
  refine ⟨rfl, ?_⟩
  let m0 : M := ⟨[some (.c k), some (.d (trD ini))], st⟩
  have v1 : Ev (dVar 1) m0 (.lst (ini.map elD)) := ev_var rfl
  have n1 : Ev (dBi bLen (dCons (dVar 1) dNil)) m0 (.int (ini.length : Nat)) := by
    have := jv_len v1
    rw [List.length_map] at this
    exact this
  have c1 : Tv (dTest (dOp RT.rGt (dBi bLen (dCons (dVar 1) dNil)) (dC v_MOST))) m0 false := by
    have := tv_test (ev_gtn (j := 20) n1 (ev_c _))
    rw [decide_eq_false (by omega)] at this
    exact this
  refine xguard m0 c1 ?_
  refine xseq_fld (k := k) rfl (jv_list v1) (lk_set b) (by show 0 < 900; decide) ?_
  rw [set_set]
  refine ⟨Nat.zero_le _, ?_⟩
  refine ⟨k, [("initial", .d (trD ini))], rfl, lk_set b, (by show 1 < 900; decide), ?_⟩
  rw [set_set]
  exact h
theorem binit_full (hn : 20 < ini.length) (h : Ex "TrainFull" .non st (setO b k (.obj "Bench" []))) : sp_Bench___init__ [.c k, .d (trD ini)] st (setO b k (.obj "Bench" [])) QO Ex := by
  unfold sp_Bench___init__
  refine ⟨rfl, ?_⟩
  let m0 : M := ⟨[some (.c k), some (.d (trD ini))], st⟩
  have v1 : Ev (dVar 1) m0 (.lst (ini.map elD)) := ev_var rfl
  have n1 : Ev (dBi bLen (dCons (dVar 1) dNil)) m0 (.int (ini.length : Nat)) := by
    have := jv_len v1
    rw [List.length_map] at this
    exact this
  have c1 : Tv (dTest (dOp RT.rGt (dBi bLen (dCons (dVar 1) dNil)) (dC v_MOST))) m0 true := by
    have := tv_test (ev_gtn (j := 20) n1 (ev_c _))
    rw [decide_eq_true (by omega)] at this
    exact this
  exact xthen m0 c1 h
end
end X
end PG

set_option maxRecDepth 100000
set_option maxHeartbeats 400000

namespace PG
open PySem PySem.Spec PyProof.Rows L2 RT S
namespace X
def oc (l : List Nat) : List Dt := l.map fun n : Nat => Dt.int (n : Int)
def deviceO (kd : Nat) (p : Int) : OCell := .obj "Device" [(("octets" : Str), .c kd), (("power" : Str), .d (.int p))]
def journalO (kb kv : Nat) (sh : Bool) : OCell := .obj "JournaledBench" [(("bench" : Str), .c kb), (("device" : Str), .c kv), (("shut" : Str), .d (.bl sh))]
structure OsUp (os os' : RT.OS) (v : Nat) (o : OCell) : Prop where
  same : ∀ j, j ≠ v → os'.lookup j = os.lookup j
  at_ : os'.lookup v = some o
theorem OsUp.set (os : RT.OS) (v : Nat) (o : OCell) : OsUp os (setO os v o) v o := ⟨fun j h => by rw [lookup_setO, if_neg h], lk_set os⟩
theorem OsUp.trans {os os1 os2 : RT.OS} {v : Nat} {o1 o2 : OCell} (h1 : OsUp os os1 v o1) (h2 : OsUp os1 os2 v o2) : OsUp os os2 v o2 := ⟨fun j h => by rw [h2.same j h, h1.same j h], h2.at_⟩
section
variable {os b : RT.OS} {st : List Cell} {v kd : Nat} {p : Int} {L : List Nat} {QO : Vl → List Cell → RT.OS → Prop} {Ex : EXS}
end
end X
end PG

set_option maxRecDepth 100000
set_option maxHeartbeats 400000

namespace PG
open PySem PySem.Spec PyProof.Rows L2 RT S
namespace X
end X
end PG

set_option maxRecDepth 100000
set_option maxHeartbeats 400000

namespace PG
open PySem PySem.Spec PyProof.Rows L2 RT S
namespace X
def opnM : Om → Opn
  | .put i e => .put i.toNat e
  | .take i => .take i.toNat
  | .exch i e => .exch i.toNat e
  | .undo => .undo
def recM (o : Om) : List Nat := recL (opnM o)
structure JSt where
  ini : List El
  lat : List (List El)
  oct : List Nat
  pow : Nat
  shut : Bool
inductive JRes where
  | res (r : Res)
  | shut
  | cut (n : Nat)
def toldB : Res → Bool
  | .ok d => !isBl d false
  | _ => false
structure JAt (os : RT.OS) (st : List Cell) (kj kb kl kv kd : Nat) (s : JSt) : Prop where
  j : os.lookup kj = some (journalO kb kv s.shut)
  b : BAt os st kb kl s.ini s.lat
  v : os.lookup kv = some (deviceO kd (s.pow : Int))
  d : st[kd]? = some (.lst (oc s.oct))
  ne : kl ≠ kd
structure StUp (st st' : List Cell) (kl kd : Nat) : Prop where
  same : ∀ j, j < st.length → j ≠ kl → j ≠ kd → st'[j]? = st[j]?
  len : st.length ≤ st'.length
theorem StUp.refl (st : List Cell) (kl kd : Nat) : StUp st st kl kd := ⟨fun _ _ _ _ => rfl, Nat.le_refl _⟩
theorem StUp.trans {a b c : List Cell} {kl kd : Nat} (h1 : StUp a b kl kd) (h2 : StUp b c kl kd) : StUp a c kl kd := ⟨fun j h n1 n2 => by rw [h2.same j (Nat.lt_of_lt_of_le h h1.len) n1 n2, h1.same j h n1 n2], Nat.le_trans h1.len h2.len⟩
theorem StUp.setl {st : List Cell} {kl kd : Nat} (c : Cell) : StUp st (st.set kl c) kl kd := ⟨fun j _ n1 _ => by rw [List.getElem?_set, if_neg (fun e => n1 e.symm)], by rw [List.length_set]; exact Nat.le_refl _⟩
theorem StUp.app {st t : List Cell} {kl kd : Nat} : StUp st (st ++ t) kl kd := ⟨fun j h _ _ => List.getElem?_append_left h, by rw [List.length_append]; omega⟩
section
variable {os : RT.OS} {m : M} {i : Nat} {d x : Dt} {xs : List Dt} {vs : List Vl} {Ex : EXO} {E : DOEnds} {u b : DSO}
end
section
variable {os : RT.OS} {st : List Cell} {kj kb kl kv kd : Nat} {s : JSt} {o : Om} {QO : Vl → List Cell → RT.OS → Prop} {Ex : EXS}
end
end X
end PG

set_option maxRecDepth 100000
set_option maxHeartbeats 400000

namespace PG
open PySem PySem.Spec PyProof.Rows L2 RT S
namespace X
def resD : Res → Dt
  | .ok d => .tup [.str ("told" : Str), d]
  | .pos i => .tup [.str ("position" : Str), .int i]
  | .elt i => .tup [.str ("element" : Str), .int i]
  | .full => .tup [.str ("full" : Str)]
section
variable {m m1 : M} {a b : DE} {x y z d : Dt} {os os1 : RT.OS} {i k : Nat} {xs : List Dt}
theorem ev_tup1 (ha : Ev a m x) : Ev (dTup (dCons a dNil)) m (.tup [x]) := fun K h => ha _ ⟨lineN rfl, h⟩
theorem ev_lst0 : Ev (dLst dNil) m (.lst []) := fun K h => ⟨lineN rfl, h⟩
theorem ev_xf {x f : Str} {a bd : Addr} (hf : fldOf x = some f) (hs : m.sl[i]? = some (some (.c k))) : Ev (dXf ((k, .exc a ((fldOf x).map (bd, ·)) d) :: os) i x a bd) m d := fun K hK => ⟨k, d, f, hs, by rw [hf]; exact List.lookup_cons_self, hf, hK⟩
theorem su_as {x f tag : Str} {E : DOEnds} (hf : fldOf x = some f) (hl : i < m1.sl.length) (h : ∀ sl, E.rt (.d (.tup [.str tag, d])) ⟨sl, m1.st ++ [.dead]⟩ os1) :
    suRun (some i) (fun a bd os => dRet (dTup (dCons (dC (.str tag)) (dCons (dXf os i x a bd) dNil)))) x d E m1 os1 := ⟨hl, fun a bd => (ev_tup2 (ev_c _) (ev_xf (i := i) hf (by rw [List.getElem?_set, if_pos rfl, if_pos hl]))) _ (h _)⟩
theorem su_no {x tag : Str} {E : DOEnds} (h : E.rt (.d (.tup [.str tag])) m1 os1) : suRun none (fun a bd os => dRet (dTup (dCons (dC (.str tag)) dNil))) x d E m1 os1 := fun a bd => (ev_tup1 (ev_c _)) _ h
theorem jv_slI {xs : List Dt} {t : DE} {i : Int} (h : Ev t m (.lst xs)) (ha : Ev a m (.int i)) : Ev (dSl false t dNoP (dPart a)) m (.lst (RT.cutD xs none (some i))) := fun K hK => h _ (ha _ hK)
theorem jv_but {xs : List Dt} {t : DE} (h : Ev t m (.lst xs)) : Ev (dSl false t dNoP (dPart (rU rNeg (dC (.int 1))))) m (.lst xs.dropLast) := by
  have := jv_slI h (jv_neg (ev_c (.int 1)))
  have e : RT.cutD xs none (some (-1)) = xs.dropLast := by
    unfold RT.cutD HT.sIx
    dsimp only
    rw [if_pos (by decide), List.dropLast_eq_take, List.drop_zero, Nat.sub_zero]
    congr 1
    omega
  rw [e] at this
  exact this
end
section
variable {os : RT.OS} {st : List Cell} {kj kb kl kv kd : Nat} {s : JSt} {o : Om} {QO : Vl → List Cell → RT.OS → Prop} {Ex : EXS}
end
end X
end PG

set_option maxRecDepth 100000
set_option maxHeartbeats 400000

namespace PG
open PySem PySem.Spec PyProof.Rows L2 RT S
namespace X
def rowsD (rows : List (List El)) : Dt := .lst (rows.map trD)
def dueD (r : Res) (rows : List (List El)) : Dt := .lst [resD r, rowsD rows]
section
variable {m : M} {t : DE} {d : Dt} {E : DEnds}
theorem dret_ev (h : Ev t m d) (hQ : E.rt (.d d) m) : dRet t E m := h _ hQ
theorem jv_addn {a b : DE} {i j : Nat} (h1 : Ev a m (.int (i : Int))) (h2 : Ev b m (.int (j : Int))) : Ev (dOp rAddA a b) m (.int ((i + j : Nat) : Int)) := by
  have := ev_addi h1 h2
  rw [← Int.natCast_add] at this
  exact this
end
section
variable {st : List Cell} {Q : Vl → List Cell → Prop} {ini : List El} {lat : List (List El)} {o : Om} {i : Int} {e : El}
theorem rows_last : atI ((ini :: lat).map trD) (-1) = some (trD (curB ini lat)) := by
  refine atI_last ?_
  rw [List.getLast?_map]
  unfold curB
  cases lat with
  | nil => rfl
  | cons a r =>
    rw [List.getLast?_cons_cons, List.getLast?_eq_some_getLast (List.cons_ne_nil a r)]
    rfl
theorem ldone_ok (hc : (curB ini lat).length ≤ 20) (hl : lat.length ≤ 10000) (h : Q (.d (dueD (stepB ini lat o).1 (ini :: (stepB ini lat o).2))) st) : sp__law_done [.d (rowsD (ini :: lat)), .d (omD o)] st Q := by
  unfold sp__law_done
  refine ⟨rfl, ?_⟩
  refine ev_set (ev_ix (xs := (ini :: lat).map trD) (i := -1) (ev_var rfl) (jv_neg (ev_c (.int 1))) rows_last) ?_
  obtain ⟨T, hT⟩ : ∃ T, curB ini lat = T := ⟨_, rfl⟩
  rw [hT] at hc ⊢
  let sl : Option Vl → Option Vl → List (Option Vl) := fun x y => [some (.d (rowsD (ini :: lat))), some (.d (omD o)), some (.d (trD T)), x, y]
  let m1 : M := ⟨sl none none, st⟩
  show dSeq _ _ _ m1
  have t0 := tv_test (ev_isM (m := m1) (i := 1) (o := o) (s := ("undo" : Str)) s_undo rfl)
  have vr : ∀ x y, Ev (dVar 0) ⟨sl x y, st⟩ (.lst ((ini :: lat).map trD)) := fun x y => ev_var rfl
  have vT : ∀ x y, Ev (dVar 2) ⟨sl x y, st⟩ (.lst (T.map elD)) := fun x y => ev_var rfl
  have nT : ∀ x y, Ev (dBi bLen (dCons (dVar 2) dNil)) ⟨sl x y, st⟩ (.int (T.length : Nat)) := fun x y => by
    have := jv_len (vT x y)
    rw [List.length_map] at this
    exact this
  have addrow : ∀ (x y : Option Vl) (t : DE) (T' : List El), Ev t ⟨sl x y, st⟩ (trD T') → Ev (dOp rAddA (dVar 0) (dLst (dCons t dNil))) ⟨sl x y, st⟩ (rowsD (ini :: (lat ++ [T']))) := fun x y t T' ht => by
    have := jv_cat (vr x y) (ev_lst1 ht) (by rw [List.length_map, List.length_cons]; show _ + 1 ≤ _; omega)
    unfold rowsD
    rw [show (ini :: (lat ++ [T'])) = (ini :: lat) ++ [T'] from rfl, List.map_append]
    exact this
  have xs0 : ∀ (x y : Option Vl), Ev (dVar 0) ⟨sl x y, st⟩ (rowsD (ini :: lat)) := fun x y => ev_var rfl
  have nundo : nmM o ≠ ("undo" : Str) → ∀ {a rest : DS} {E : DEnds} {j : Int}, (Ev (dOp RT.rIx (dVar 1) (dC (.int 1))) m1 (.int j)) → rest E ⟨sl (some (.d (.int j))) none, st⟩ → dSeq (dIfS (dTest (dOp RT.rEq (dOp RT.rIx (dVar 1) (dC (.int 0))) (dC (.str ("undo" : Str))))) a dNext) (dSeq (dSet 3 (dOp RT.rIx (dVar 1) (dC (.int 1)))) rest) E m1 := fun hn {a rest E j} hv hr => by
    rw [decide_eq_false hn] at t0
    exact guard_st m1 t0 (ev_set hv hr)
  have tput : ∀ x y, Tv (dTest (dOp RT.rEq (dOp RT.rIx (dVar 1) (dC (.int 0))) (dC (.str ("put" : Str))))) ⟨sl x y, st⟩ (decide (nmM o = ("put" : Str))) := fun x y => tv_test (ev_isM (m := ⟨sl x y, st⟩) (i := 1) (o := o) (s := ("put" : Str)) s_put rfl)
  have tch : ∀ {j : Int} {n : Nat} y, T.length = n → Tv (dNot (dTest (dChainI (fun i j => decide (i ≤ j)) (fun i j => decide (i < j)) (dC (.int 0)) (dVar 3) (dBi bLen (dCons (dVar 2) dNil))))) ⟨sl (some (.d (.int j))) y, st⟩ (!idxOk j n) := fun {j n} y e => by
    subst e
    exact tv_not (tv_test (jv_chain (f := fun i j => decide (i ≤ j)) (g := fun i j => decide (i < j)) (ev_c (.int 0)) (ev_var rfl) (nT _ _)))
  have row3 : ∀ {j : Nat} {more : List El}, T.length ≤ 20 → more.length ≤ 1 → Ev (dOp rAddA (dOp rAddA (dSl false (dVar 2) dNoP (dPart (dVar 3))) (dVar 4)) (dSl false (dVar 2) (dPart (dOp rAddA (dVar 3) (dC (.int 1)))) dNoP)) ⟨sl (some (.d (.int (j : Int)))) (some (.d (trD more))), st⟩ (trD (T.take j ++ more ++ T.drop (j + 1))) := fun {j more} hT hm => by
    have v3 : Ev (dVar 3) ⟨sl (some (.d (.int (j : Int)))) (some (.d (trD more))), st⟩ (.int (j : Int)) := ev_var rfl
    have := jv_cat (jv_cat (jv_slT (f := elD) (vT _ _) v3) (ev_var (i := 4) (d := .lst (more.map elD)) rfl) (by rw [List.length_map, List.length_map, List.length_take]; omega)) (jv_slF (f := elD) (vT _ _) (jv_addn (j := 1) v3 (ev_c _))) (by rw [List.length_append, List.length_map, List.length_map, List.length_map, List.length_take, List.length_drop]; omega)
    unfold trD
    rw [List.map_append, List.map_append]
    exact this
  have two : ∀ {x y : Option Vl} {a b : DE} {p q : Dt}, Ev a ⟨sl x y, st⟩ p → Ev b ⟨sl x y, st⟩ q → Q (.d (.lst [p, q])) st → ∀ {K : M → Prop}, dRet (dLst (dCons a (dCons b dNil))) ⟨K, (endsOf false st.length Q).rt, (endsOf false st.length Q).bk, (endsOf false st.length Q).ct⟩ ⟨sl x y, st⟩ := fun {x y a b p q} ha hb hq {K} => dret_ev (ev_lst2 ha hb) (tk hq)
  cases o with
  | undo =>
    rw [show decide (nmM .undo = ("undo" : Str)) = true from decide_eq_true rfl] at t0
    refine ifs_t' m1 t0 ?_
    rw [st_undo] at h
    have n0 : Tv (dTest (dOp RT.rEq (dBi bLen (dCons (dVar 0) dNil)) (dC (.int 1)))) m1 (decide (lat = [])) := by
      have := tv_test (ev_eqi (jv_len (vr none none)) (ev_c (.int 1)))
      rw [List.length_map, List.length_cons] at this
      rw [show decide (((lat.length + 1 : Nat) : Int) = 1) = decide (lat = []) from decide_eq_decide.mpr ⟨fun e => List.eq_nil_of_length_eq_zero (by omega), fun e => by rw [e]; rfl⟩] at this
      exact this
    by_cases hl0 : lat = []
    · rw [if_pos hl0] at h
      rw [decide_eq_true hl0] at n0
      refine ifs_t' m1 n0 ?_
      exact two (ev_tup2 (ev_c _) (ev_c _)) (xs0 _ _) h
    · rw [if_neg hl0] at h
      rw [decide_eq_false hl0] at n0
      refine guard_st m1 n0 ?_
      refine two (ev_tup2 (ev_c _) (ev_c _)) (jv_but (vr _ _)) ?_
      rw [← List.map_dropLast]
      have e : (ini :: lat).dropLast = ini :: lat.dropLast := by
        cases lat with
        | nil => exact absurd rfl hl0
        | cons a r => rfl
      rw [e]
      exact h
  | put i e =>
    refine nundo (by show ("put" : Str) ≠ "undo"; decide +kernel) (ev_ixt (xs := [.str ("put" : Str), .int i, elD e]) (ev_var (i := 1) rfl) (ev_c _) rfl) ?_
    have tp := tput (some (.d (.int i))) none
    rw [show decide (nmM (.put i e) = ("put" : Str)) = true from decide_eq_true rfl] at tp
    refine ifs_t' _ tp ?_
    rw [st_put, hT] at h
    have tc : Tv (dNot (dTest (dChainI (fun i j => decide (i ≤ j)) (fun i j => decide (i ≤ j)) (dC (.int 0)) (dVar 3) (dBi bLen (dCons (dVar 2) dNil))))) ⟨sl (some (.d (.int i))) none, st⟩ (!idxOk i (T.length + 1)) := by
      have := tv_not (tv_test (jv_chain (f := fun i j => decide (i ≤ j)) (g := fun i j => decide (i ≤ j)) (ev_c (.int 0)) (ev_var (m := ⟨sl (some (.d (.int i))) none, st⟩) (i := 3) (d := .int i) rfl) (nT _ _)))
      rw [show ((decide ((0 : Int) ≤ i)) && decide (i ≤ (T.length : Int))) = idxOk i (T.length + 1) by
        unfold idxOk
        congr 1
        exact decide_eq_decide.mpr (by omega)] at this
      exact this
    cases c : idxOk i (T.length + 1) with
    | false =>
      rw [if_pos c] at h
      rw [c] at tc
      refine ifs_t' _ tc ?_
      exact two (ev_tup2 (ev_c _) (ev_var (i := 3) rfl)) (xs0 _ _) h
    | true =>
      rw [if_neg (by rw [c]; decide)] at h
      rw [c] at tc
      refine guard_st _ tc ?_
      have n20 : Tv (dTest (dOp RT.rEq (dBi bLen (dCons (dVar 2) dNil)) (dC (.int 20)))) ⟨sl (some (.d (.int i))) none, st⟩ (decide (20 ≤ T.length)) := by
        have := tv_test (ev_eqi (nT (some (.d (.int i))) none) (ev_c (.int 20)))
        rw [show decide (((T.length : Nat) : Int) = 20) = decide (20 ≤ T.length) from decide_eq_decide.mpr (by omega)] at this
        exact this
      by_cases c20 : 20 ≤ T.length
      · rw [if_pos c20] at h
        rw [decide_eq_true c20] at n20
        refine ifs_t' _ n20 ?_
        exact two (ev_tup1 (ev_c _)) (xs0 _ _) h
      · rw [if_neg c20] at h
        rw [decide_eq_false c20] at n20
        refine guard_st _ n20 ?_
        obtain ⟨ei, li⟩ := nat_of_idx c
        have v3 : Ev (dVar 3) ⟨sl (some (.d (.int i))) none, st⟩ (.int (i.toNat : Int)) := by
          rw [← ei]
          exact ev_var rfl
        refine two (ev_tup2 (ev_c _) (jv_addn (j := 1) (nT _ _) (ev_c _))) (addrow _ _ _ _ ?_) h
        have := jv_cat (jv_cat (jv_slT (f := elD) (vT _ _) v3) (ev_lst1 (ev_ixt (i := 2) (z := elD e) (xs := [.str ("put" : Str), .int i, elD e]) (ev_var (i := 1) rfl) (ev_c _) rfl)) (by rw [List.length_map, List.length_take]; show _ + 1 ≤ _; omega)) (jv_slF (f := elD) (vT _ _) v3) (by rw [List.length_append, List.length_map, List.length_map, List.length_take, List.length_drop]; show _ + 1 + _ ≤ _; omega)
        unfold trD
        rw [List.map_append, List.map_append]
        exact this
  | take i =>
    refine nundo (by show ("take" : Str) ≠ "undo"; decide +kernel) (ev_ixt (xs := [.str ("take" : Str), .int i]) (ev_var (i := 1) rfl) (ev_c _) rfl) ?_
    have tp := tput (some (.d (.int i))) none
    rw [show decide (nmM (.take i) = ("put" : Str)) = false from decide_eq_false (by show ("take" : Str) ≠ "put"; decide +kernel)] at tp
    refine guard_st _ tp ?_
    rw [st_take, hT] at h
    have tc := tch (j := i) (n := T.length) none rfl
    cases c : idxOk i T.length with
    | false =>
      rw [if_pos c] at h
      rw [c] at tc
      refine ifs_t' _ tc ?_
      exact two (ev_tup2 (ev_c _) (ev_var (i := 3) rfl)) (xs0 _ _) h
    | true =>
      rw [if_neg (by rw [c]; decide)] at h
      rw [c] at tc
      refine guard_st _ tc ?_
      obtain ⟨ei, li⟩ := nat_of_idx c
      have te := ev_isM (m := ⟨sl (some (.d (.int i))) none, st⟩) (i := 1) (o := .take i) (s := ("exchange" : Str)) s_exch rfl
      rw [show decide (nmM (.take i) = ("exchange" : Str)) = false from decide_eq_false (by show ("take" : Str) ≠ "exchange"; decide +kernel)] at te
      refine ev_set (d := trD []) (ev_ix (xs := [.lst [], .lst [.int i]]) (i := 0) (ev_lst2 ev_lst0 (ev_lst1 (ev_ixt (xs := [.str ("take" : Str), .int i]) (ev_var (i := 1) rfl) (jv_neg (ev_c (.int 1))) rfl))) (ev_bi (x := .bl false) (fun P hP => bint_bl hP) te) rfl) ?_
      have hz : T[i.toNat]? = some (T.getD i.toNat (.gap 0)) := by
        rw [List.getD_eq_getElem?_getD, List.getElem?_eq_getElem li]
        rfl
      have r3 := row3 (j := i.toNat) (more := []) hc (by decide)
      rw [← ei, List.append_nil] at r3
      exact dret_ev (ev_lst2 (ev_tup2 (ev_c _) (ev_ix (xs := T.map elD) (i := (i.toNat : Int)) (vT _ _) (by rw [← ei]; exact ev_var (i := 3) rfl) (atI_map hz))) (addrow _ _ _ _ r3)) (tk h)
  | exch i e =>
    refine nundo (by show ("exchange" : Str) ≠ "undo"; decide +kernel) (ev_ixt (xs := [.str ("exchange" : Str), .int i, elD e]) (ev_var (i := 1) rfl) (ev_c _) rfl) ?_
    have tp := tput (some (.d (.int i))) none
    rw [show decide (nmM (.exch i e) = ("put" : Str)) = false from decide_eq_false (by show ("exchange" : Str) ≠ "put"; decide +kernel)] at tp
    refine guard_st _ tp ?_
    rw [st_exch, hT] at h
    have tc := tch (j := i) (n := T.length) none rfl
    cases c : idxOk i T.length with
    | false =>
      rw [if_pos c] at h
      rw [c] at tc
      refine ifs_t' _ tc ?_
      exact two (ev_tup2 (ev_c _) (ev_var (i := 3) rfl)) (xs0 _ _) h
    | true =>
      rw [if_neg (by rw [c]; decide)] at h
      rw [c] at tc
      refine guard_st _ tc ?_
      obtain ⟨ei, li⟩ := nat_of_idx c
      have te := ev_isM (m := ⟨sl (some (.d (.int i))) none, st⟩) (i := 1) (o := .exch i e) (s := ("exchange" : Str)) s_exch rfl
      rw [show decide (nmM (.exch i e) = ("exchange" : Str)) = true from decide_eq_true rfl] at te
      refine ev_set (d := trD [e]) (ev_ix (xs := [.lst [], .lst [elD e]]) (i := 1) (ev_lst2 ev_lst0 (ev_lst1 (ev_ixt (xs := [.str ("exchange" : Str), .int i, elD e]) (ev_var (i := 1) rfl) (jv_neg (ev_c (.int 1))) rfl))) (ev_bi (x := .bl true) (fun P hP => bint_bl hP) te) rfl) ?_
      have hz : T[i.toNat]? = some (T.getD i.toNat (.gap 0)) := by
        rw [List.getD_eq_getElem?_getD, List.getElem?_eq_getElem li]
        rfl
      have r3 := row3 (j := i.toNat) (more := [e]) hc (by show 1 ≤ 1; decide)
      rw [← ei] at r3
      exact dret_ev (ev_lst2 (ev_tup2 (ev_c _) (ev_ix (xs := T.map elD) (i := (i.toNat : Int)) (vT _ _) (by rw [← ei]; exact ev_var (i := 3) rfl) (atI_map hz))) (addrow _ _ _ _ r3)) (tk h)
end
end X
end PG

set_option maxRecDepth 100000
set_option maxHeartbeats 400000

namespace PG
open PySem PySem.Spec PyProof.Rows L2 RT S
namespace X
section
variable {ds : List Int} {i k : Nat} {st : List Cell} {Q : Vl → List Cell → Prop} {n : Nat}
theorem idx_n (hn : n ≤ 30) (r : Int) (h0 : 0 ≤ r) (h1 : r < 4) : ∃ z : Int, atI [Dt.int (-1), .int ((n + 1 : Nat) : Int), .int (n : Int), .int 30] r = some (.int z) ∧ z.natAbs ≤ 100 := by
  have : r = 0 ∨ r = 1 ∨ r = 2 ∨ r = 3 := by omega
  rcases this with rfl | rfl | rfl | rfl
  · exact ⟨-1, rfl, by decide⟩
  · exact ⟨((n + 1 : Nat) : Int), rfl, by omega⟩
  · exact ⟨(n : Int), rfl, by omega⟩
  · exact ⟨30, rfl, by decide⟩
theorem lop_ok (hn : n ≤ 30) (hk : st[k]? = some (Bx ds i)) (hi : i < 600000) (h : ∀ (o : Om) (j : Nat), OmOk o → j ≤ i + 10 → Q (.d (omD o)) (st.set k (Bx ds j))) : sp__law_operation [.c k, .d (.int (n : Int))] st Q := by
  have hlt : k < st.length := (List.getElem?_eq_some_iff.mp hk).1
  have hs : ∀ c : Cell, (st.set k c)[k]? = some c := fun c => by simp [hlt]
  have hl : ∀ c : Cell, (st.set k c).length = st.length := fun c => List.length_set
  have tk' : ∀ {v : Vl} {c : Cell}, Q v (st.set k c) → Q v ((st.set k c).take st.length) := fun {v c} q => by
    rw [← hl c]
    exact tk q
  unfold sp__law_operation
  refine ⟨rfl, draw2_ok hk (by decide) (by omega) fun w w0 w1 => ?_⟩
  refine draw2_ok (hs _) (by omega) (by omega) fun b b0 b1 => ?_
  rw [List.set_set]
  let S : Int → Nat → M := fun z j => ⟨[some (.c k), some (.d (.int (n : Int))), some (.d (.int w)), some (.d (.int z))], st.set k (Bx ds j)⟩
  have fin : ∀ (z : Int) (j : Nat), z.natAbs ≤ 100 → j ≤ i + 4 → (dSeq (dIfS (dTest (dOp RT.rLt (dVar 2) (dC (.int 4))))
  (dRet (dTup (dCons (dC (.str ("put" : Str))) (dCons (dVar 3) (dCons (dCall PG.sp__law_element_2 [] (dCons (dVar 0) dNil)) dNil)))))
  dNext)
  (dSeq (dIfS (dTest (dOp RT.rLt (dVar 2) (dC (.int 6))))
  (dRet (dTup (dCons (dC (.str ("take" : Str))) (dCons (dVar 3) dNil))))
  dNext)
  (dSeq (dIfS (dTest (dOp RT.rLt (dVar 2) (dC (.int 8))))
  (dRet (dTup (dCons (dC (.str ("exchange" : Str))) (dCons (dVar 3) (dCons (dCall PG.sp__law_element_2 [] (dCons (dVar 0) dNil)) dNil)))))
  dNext)
  (dRet (dTup (dCons (dC (.str ("undo" : Str))) dNil)))))) (endsOf false st.length Q) (S z j) := fun z j hz hj => by
    have tt : ∀ c : Int, Tv (dTest (dOp RT.rLt (dVar 2) (dC (.int c)))) (S z j) (decide (w < c)) := fun c => tv_test (ev_op (x := .int w) (y := .int c) (fun P hP => ⟨trivial, hP⟩) (ev_var rfl) (ev_c _))
    by_cases c3 : w < 4
    · refine ifs_t' (S z j) (by have := tt 4; rw [decide_eq_true c3] at this; exact this) ?_
      refine elementG2_ok (ds := ds) (i := j) (hs _) (by omega) fun e j' he hj' => ?_
      rw [List.set_set]
      exact ⟨lineN rfl, tk' (h (.put z e) j' ⟨hz, he⟩ (by omega))⟩
    refine guard_st (S z j) (by have := tt 4; rw [decide_eq_false c3] at this; exact this) ?_
    by_cases c5 : w < 6
    · refine ifs_t' (S z j) (by have := tt 6; rw [decide_eq_true c5] at this; exact this) ?_
      exact ⟨lineN rfl, tk' (h (.take z) j hz (by omega))⟩
    refine guard_st (S z j) (by have := tt 6; rw [decide_eq_false c5] at this; exact this) ?_
    by_cases c7 : w < 8
    · refine ifs_t' (S z j) (by have := tt 8; rw [decide_eq_true c7] at this; exact this) ?_
      refine elementG2_ok (ds := ds) (i := j) (hs _) (by omega) fun e j' he hj' => ?_
      rw [List.set_set]
      exact ⟨lineN rfl, tk' (h (.exch z e) j' ⟨hz, he⟩ (by omega))⟩
    refine guard_st (S z j) (by have := tt 8; rw [decide_eq_false c7] at this; exact this) ?_
    exact ⟨lineN rfl, tk' (h .undo j trivial (by omega))⟩
  refine draw2_ok (hs _) (by decide) (by omega) fun c c0 c1 => ?_
  rw [List.set_set]
  by_cases e0 : c = 0
  · refine ⟨rfl, rfl, ?_⟩
    show (if eqD (.int c) (.int 0) = true then _ else _ : Prop)
    rw [eqD_int, decide_eq_true e0, if_pos rfl]
    refine ⟨lineN rfl, ?_⟩
    refine draw2_ok (ds := ds) (i := i + 3) (hs _) (by decide) (by omega) fun d d0 d1 => ?_
    rw [List.set_set]
    obtain ⟨z, ez, hz⟩ := idx_n hn d d0 d1
    refine rIx_mk (by rw [Int.natCast_add] at ez; exact ez) ?_
    exact fin z (i + 4) hz (by omega)
  · refine ⟨rfl, rfl, ?_⟩
    show (if eqD (.int c) (.int 0) = true then _ else _ : Prop)
    rw [eqD_int, decide_eq_false e0, if_neg (by decide)]
    exact fin b (i + 3) (by omega) (by omega)
end
section
variable {os : RT.OS} {st : List Cell} {n : Nat} {L : List Nat} {QO : Vl → List Cell → RT.OS → Prop} {Ex : EXS}
theorem xset_make {c : Str} {sp : FSpecO} {ts : RT.OS → DA} {vs : List Vl} {i : Nat} {u : DSO} {m : M} {Ex : EXO} {E : DOEnds} (ha : ∀ K : List Vl → M → Prop, K vs m → ts os m K)
    (hs : sp (.c m.st.length :: vs) (m.st ++ [.dead]) (setO os m.st.length (.obj c [])) (fun r st' os' => r = .d .non ∧ u Ex E ⟨m.sl.set i (some (.c m.st.length)), st'⟩ os') (fun x d st' os' => Ex x d ⟨m.sl, st'⟩ os')) : xSeq (xSet i (xMake c sp (xA ts))) u Ex E m os := ha _ hs
end
end X
end PG

set_option maxRecDepth 100000
set_option maxHeartbeats 400000

namespace PG
open PySem PySem.Spec PyProof.Rows L2 RT S
namespace X
def RowOk (n : Nat) (t : List El) : Prop := t.length ≤ n ∧ ∀ e ∈ t, ElIn e
def RowsOk (n : Nat) (ini : List El) (lat : List (List El)) : Prop := ∀ t ∈ ini :: lat, RowOk n t
inductive TD : Dt → Prop
  | bl (b : Bool) : TD (.bl b)
  | nat (n : Nat) : n ≤ 1000000 → TD (.int (n : Int))
  | el (e : El) : ElIn e → TD (elD e)
theorem RowsOk.cur {n : Nat} {ini : List El} {lat : List (List El)} (h : RowsOk n ini lat) : RowOk n (curB ini lat) := by
  unfold curB
  cases e : lat.getLast? with
  | none => exact h ini List.mem_cons_self
  | some t => exact h t (List.mem_cons_of_mem _ (List.mem_of_getLast? e))
theorem RowOk.mono {n k : Nat} {t : List El} (h : RowOk n t) (hk : n ≤ k) : RowOk k t := ⟨Nat.le_trans h.1 hk, h.2⟩
theorem RowsOk.mono {n k : Nat} {ini : List El} {lat : List (List El)} (h : RowsOk n ini lat) (hk : n ≤ k) : RowsOk k ini lat := fun t ht => (h t ht).mono hk
theorem RowsOk.snoc {n : Nat} {ini : List El} {lat : List (List El)} (h : RowsOk n ini lat) {t : List El} (ht : RowOk n t) : RowsOk n ini (lat ++ [t]) := fun u hu => by
  rcases List.mem_cons.mp hu with rfl | hu
  · exact h _ List.mem_cons_self
  · rcases List.mem_append.mp hu with hu | hu
    · exact h u (List.mem_cons_of_mem _ hu)
    · rw [List.mem_singleton.mp hu]
      exact ht
def elOm : Om → Prop
  | .put _ e => ElIn e
  | .exch _ e => ElIn e
  | _ => True
theorem OmOk.el {o : Om} (h : OmOk o) : elOm o := by
  cases o with
  | put i e => exact h.2.1
  | exch i e => exact h.2.1
  | take i => trivial
  | undo => trivial
theorem step_rows {n : Nat} {ini : List El} {lat : List (List El)} {o : Om} (h : RowsOk n ini lat) (ho : elOm o) : RowsOk (n + 1) ini (stepB ini lat o).2 := by
  have h1 := h.mono (Nat.le_succ n)
  have hc := h.cur
  cases o with
  | undo =>
    rw [st_undo]
    split
    · exact h1
    · intro t ht
      rcases List.mem_cons.mp ht with rfl | ht
      · exact h1 _ List.mem_cons_self
      · exact h1 t (List.mem_cons_of_mem _ ((List.dropLast_sublist lat).subset ht))
  | put i e =>
    rw [st_put]
    split
    · exact h1
    · split
      · exact h1
      · refine h1.snoc ⟨?_, fun x hx => ?_⟩
        · rw [List.length_append, List.length_append, List.length_take, List.length_drop]
          have := hc.1
          show _ + 1 + _ ≤ _
          omega
        · rcases List.mem_append.mp hx with hx | hx
          · rcases List.mem_append.mp hx with hx | hx
            · exact hc.2 x (List.mem_of_mem_take hx)
            · rw [List.mem_singleton.mp hx]
              exact ho
          · exact hc.2 x (List.mem_of_mem_drop hx)
  | take i =>
    rw [st_take]
    split
    · exact h1
    · refine h1.snoc ⟨?_, fun x hx => ?_⟩
      · rw [List.length_append, List.length_take, List.length_drop]
        have := hc.1
        omega
      · rcases List.mem_append.mp hx with hx | hx
        · exact hc.2 x (List.mem_of_mem_take hx)
        · exact hc.2 x (List.mem_of_mem_drop hx)
  | exch i e =>
    rw [st_exch]
    cases q : idxOk i (curB ini lat).length with
    | false =>
      rw [if_pos rfl]
      exact h1
    | true =>
      rw [if_neg (by decide)]
      refine h1.snoc ⟨?_, fun x hx => ?_⟩
      · rw [List.length_append, List.length_append, List.length_take, List.length_drop]
        have := hc.1
        show _ + 1 + _ ≤ _
        omega
      · rcases List.mem_append.mp hx with hx | hx
        · rcases List.mem_append.mp hx with hx | hx
          · exact hc.2 x (List.mem_of_mem_take hx)
          · rw [List.mem_singleton.mp hx]
            exact ho
        · exact hc.2 x (List.mem_of_mem_drop hx)
theorem step_len {ini : List El} {lat : List (List El)} {o : Om} : (stepB ini lat o).2.length ≤ lat.length + 1 := by
  cases o with
  | undo =>
    rw [st_undo]
    split
    · exact Nat.le_succ _
    · rw [List.length_dropLast]
      omega
  | put i e =>
    rw [st_put]
    split
    · exact Nat.le_succ _
    · split
      · exact Nat.le_succ _
      · rw [List.length_append]
        exact Nat.le_refl _
  | take i =>
    rw [st_take]
    split
    · exact Nat.le_succ _
    · rw [List.length_append]
      exact Nat.le_refl _
  | exch i e =>
    rw [st_exch]
    split
    · exact Nat.le_succ _
    · rw [List.length_append]
      exact Nat.le_refl _

theorem lg_100 {i : Int} (h : i.natAbs ≤ 100) : Lg 2 4000 (.int i) := (lg_int (by
  have := log_le (z := i) (n := 100) (b := 10) h (by decide)
  omega)).le (by decide) (by decide)
theorem lg_s {s : Str} (h : (toPy (Dt.str s)).showable = true) (hl : (toPy (Dt.str s)).shown.length ≤ 600) (hd : (toPy (Dt.str s)).depth ≤ 0) : Lg 2 4000 (.str s) := (⟨h, hd, hl⟩ : Lg 0 600 (.str s)).le (by decide) (by decide)
end X
end PG

set_option maxRecDepth 100000
set_option maxHeartbeats 400000

namespace PG
open PySem PySem.Spec PyProof.Rows L2 RT S
namespace X
section
variable {m : M} {r : Res} {i : Nat} {d : Dt}
theorem ev_call2 {sp : FSpec} {a b : DE} {x y z : Dt} (hr : ∀ Q : Vl → List Cell → Prop, Q (.d z) m.st → sp [.d x, .d y] m.st Q) (ha : Ev a m x) (hb : Ev b m y) : Ev (dCall sp [] (dCons a (dCons b dNil))) m z := fun K h => ha _ (hb _ (hr _ h))
end
end X
end PG

set_option maxRecDepth 100000
set_option maxHeartbeats 400000

namespace PG
open PySem PySem.Spec PyProof.Rows L2 RT S
namespace X
section
variable {s : JSt} {o : Om} {n : Nat}
end
section
variable {os b : RT.OS} {st : List Cell} {kj kb kl kv kd : Nat} {QO : Vl → List Cell → RT.OS → Prop} {Ex : EXS}
structure StExt (st st' : List Cell) : Prop where
  same : ∀ j, j < st.length → st'[j]? = st[j]?
  len : st.length ≤ st'.length
theorem StExt.refl (st : List Cell) : StExt st st := ⟨fun _ _ => rfl, Nat.le_refl _⟩
theorem StExt.app {st t : List Cell} : StExt st (st ++ t) := ⟨fun j h => List.getElem?_append_left h, by rw [List.length_append]; omega⟩
theorem StExt.trans {a b c : List Cell} (h1 : StExt a b) (h2 : StExt b c) : StExt a c := ⟨fun j h => by rw [h2.same j (Nat.lt_of_lt_of_le h h1.len), h1.same j h], Nat.le_trans h1.len h2.len⟩
theorem at_app1 {st : List Cell} {c : Cell} : (st ++ [c])[st.length]? = some c := by simp
end
end X
end PG

set_option maxRecDepth 100000
set_option maxHeartbeats 400000

namespace PG
open PySem PySem.Spec PyProof.Rows L2 RT S
namespace X
theorem step_rows20 {ini : List El} {lat : List (List El)} {o : Om} (h : RowsOk 20 ini lat) (ho : elOm o) : RowsOk 20 ini (stepB ini lat o).2 := by
  have hc := h.cur
  have h1 := step_rows h ho
  cases o with
  | undo =>
    rw [st_undo]
    split
    · exact h
    · intro t ht
      rcases List.mem_cons.mp ht with rfl | ht
      · exact h _ List.mem_cons_self
      · exact h t (List.mem_cons_of_mem _ ((List.dropLast_sublist lat).subset ht))
  | put i e =>
    rw [st_put] at h1 ⊢
    split
    · exact h
    · split
      · exact h
      · rename_i g1 g2
        rw [if_neg g1, if_neg g2] at h1
        refine h.snoc ⟨?_, (h1 _ (List.mem_cons_of_mem _ (List.mem_append_right _ (List.mem_singleton.mpr rfl)))).2⟩
        rw [List.length_append, List.length_append, List.length_take, List.length_drop]
        have := hc.1
        show _ + 1 + _ ≤ _
        omega
  | take i =>
    rw [st_take] at h1 ⊢
    split
    · exact h
    · rename_i g1
      rw [if_neg g1] at h1
      refine h.snoc ⟨?_, (h1 _ (List.mem_cons_of_mem _ (List.mem_append_right _ (List.mem_singleton.mpr rfl)))).2⟩
      rw [List.length_append, List.length_take, List.length_drop]
      have := hc.1
      omega
  | exch i e =>
    rw [st_exch] at h1 ⊢
    cases q : idxOk i (curB ini lat).length with
    | false =>
      rw [if_pos rfl]
      exact h
    | true =>
      rw [if_neg (by decide)]
      rw [q, if_neg (by decide)] at h1
      obtain ⟨_, li⟩ := nat_of_idx q
      refine h.snoc ⟨?_, (h1 _ (List.mem_cons_of_mem _ (List.mem_append_right _ (List.mem_singleton.mpr rfl)))).2⟩
      rw [List.length_append, List.length_append, List.length_take, List.length_drop]
      have := hc.1
      show _ + 1 + _ ≤ _
      omega
inductive Run (ini : List El) : List (List El) → List Om → List (List El) → Prop
  | nil (lat : List (List El)) : Run ini lat [] lat
  | cons {lat lat' : List (List El)} {o : Om} {r : List Om} : OmOk o → toldB (stepB ini lat o).1 = true → Run ini (stepB ini lat o).2 r lat' → Run ini lat (o :: r) lat'
theorem Run.snoc {ini : List El} {lat lat' : List (List El)} {ops : List Om} {o : Om} (h : Run ini lat ops lat') (ho : OmOk o) (ht : toldB (stepB ini lat' o).1 = true) : Run ini lat (ops ++ [o]) (stepB ini lat' o).2 := by
  induction h with
  | nil lat => exact .cons ho ht (.nil _)
  | cons h1 h2 _ ih => exact .cons h1 h2 (ih ht)
theorem Run.rows {ini : List El} {lat lat' : List (List El)} {ops : List Om} (h : Run ini lat ops lat') (hr : RowsOk 20 ini lat) : RowsOk 20 ini lat' := by
  induction h with
  | nil lat => exact hr
  | cons h1 h2 _ ih => exact ih (step_rows20 hr h1.el)
theorem Run.len {ini : List El} {lat lat' : List (List El)} {ops : List Om} (h : Run ini lat ops lat') : lat'.length ≤ lat.length + ops.length := by
  induction h with
  | nil lat => exact Nat.le_add_right _ _
  | @cons lat lat' o r h1 h2 _ ih =>
    have := @step_len ini lat o
    rw [List.length_cons]
    omega
def recsM (ops : List Om) : List Nat := (ops.map opnM).flatMap recL
theorem recsM_le {ops : List Om} (h : ∀ o ∈ ops, OpOk (opnM o)) : (recsM ops).length ≤ 206 * ops.length ∧ ∀ c ∈ recsM ops, c ≤ 255 := by
  induction ops with
  | nil => exact ⟨Nat.le_refl _, fun c h => nomatch h⟩
  | cons o r ih =>
    obtain ⟨i1, i2⟩ := ih fun x hx => h x (List.mem_cons_of_mem _ hx)
    have ho := h o List.mem_cons_self
    have e : recsM (o :: r) = recM o ++ recsM r := rfl
    rw [e]
    refine ⟨?_, fun c hc => ?_⟩
    · rw [List.length_append, List.length_cons]
      have := (rec_len ho).1
      show (recL (opnM o)).length + _ ≤ _
      omega
    · rcases List.mem_append.mp hc with hc | hc
      · exact rec_le ho c hc
      · exact i2 c hc
theorem recF_M {ops : List Om} (h : ∀ o ∈ ops, OpOk (opnM o)) {tl : List Nat} (ht : first tl = none) : recF (recsM ops ++ tl) = (ops.map opnM, (recsM ops).length) := recF_all (os := ops.map opnM) (r := tl) (fun o ho => by
  obtain ⟨x, hx, rfl⟩ := List.mem_map.mp ho
  exact h x hx) ht
section
variable {m : M} {E : DOEnds} {Ex : EXO} {u : DSO} {os : RT.OS}
theorem ja_cv {b k c : Nat} {d : Dt} (h0 : m.sl[b]? = some (some (.c k))) (h1 : m.sl[c]? = some (some (.d d))) : ∀ K : List Vl → M → Prop, K [.c k, .d d] m → dCons (dVar b) (dCons (dVar c) dNil) m K := fun K hK => evC_var h0 _ (ev_var h1 _ hK)
end
section
variable {os : RT.OS} {st : List Cell} {QO : Vl → List Cell → RT.OS → Prop} {Ex : EXS} {ini : List El} {ops : List Om} {lat : List (List El)} {octs : List Nat} {P : Nat}
end
end X
end PG

set_option maxRecDepth 100000
set_option maxHeartbeats 400000
namespace PG
open PySem PySem.Spec PyProof.Rows L2 RT S
namespace X
theorem JAt.set0 {os : RT.OS} {st : List Cell} {kj kb kl kv kd : Nat} {s : JSt} (A : JAt os st kj kb kl kv kd s) (h1 : 0 < kl) (h2 : 0 < kd) (c : Cell) : JAt os (st.set 0 c) kj kb kl kv kd s :=
  ⟨A.j, ⟨A.b.o, by rw [List.getElem?_set, if_neg (by omega)]; exact A.b.s⟩, A.v, by rw [List.getElem?_set, if_neg (by omega)]; exact A.d, A.ne⟩
theorem ja_cb {b k : Nat} {t : DE} {d : Dt} {m : M} (h0 : m.sl[b]? = some (some (.c k))) (ht : Ev t m d) : ∀ K : List Vl → M → Prop, K [.c k, .d d] m → dCons (dVar b) (dCons t dNil) m K := fun K hK => evC_var h0 _ (ht _ hK)
theorem dset_cb {sp : FSpec} {i b k : Nat} {t : DE} {d : Dt} {m : M} {E : DEnds} (h0 : m.sl[b]? = some (some (.c k))) (ht : Ev t m d) (hs : sp [.c k, .d d] m.st (fun v st' => E.nx ⟨m.sl.set i (some v), st'⟩)) : dSet i (dCall sp [] (dCons (dVar b) (dCons t dNil))) E m := by
  dsimp only [dSet, dCall]
  exact ja_cb h0 ht _ hs
end X
open X
end PG

set_option maxRecDepth 100000
set_option maxHeartbeats 400000

namespace PG
open PySem PySem.Spec PyProof.Rows L2 RT S
namespace X
structure Ses (ops : List Om) (octs : List Nat) : Prop where
  tk : octs.take (recsM ops).length = recsM ops
  rc : recF octs = (ops.map opnM, (recsM ops).length)
  le : octs.length ≤ (recsM ops).length + 1000
  oc : ∀ c ∈ octs, c ≤ 255
theorem Ses.of {ops : List Om} {tl : List Nat} (ho : ∀ o ∈ ops, OpOk (opnM o)) (h : first tl = none) (hl : tl.length ≤ 1000) (hc : ∀ c ∈ tl, c ≤ 255) : Ses ops (recsM ops ++ tl) := by
  refine ⟨?_, recF_M ho h, ?_, fun c h => ?_⟩
  · rw [List.take_append_of_le_length (Nat.le_refl _), List.take_length]
  · rw [List.length_append]
    omega
  · rcases List.mem_append.mp h with h | h
    · exact (recsM_le ho).2 c h
    · exact hc c h
section
variable {m : M} {E : DOEnds} {Ex : EXO} {u : DSO} {os : RT.OS} {i k : Nat} {x y z : Dt} {a b c : DE}
theorem ev_lst3 (ha : Ev a m x) (hb : Ev b m y) (hc : Ev c m z) : Ev (dLst (dCons a (dCons b (dCons c dNil)))) m (.lst [x, y, z]) := fun K h => ha _ (hb _ (hc _ ⟨lineN rfl, h⟩))
end

end X
end PG

set_option maxRecDepth 100000
set_option maxHeartbeats 400000

namespace PG
open PySem PySem.Spec PyProof.Rows L2 RT S
namespace X

def RowZ (t : List El) : Prop := t.length ≤ 20 ∧ ∀ e ∈ t, ElZ 1900 e
def RowsZ (ini : List El) (lat : List (List El)) : Prop := ∀ t ∈ ini :: lat, RowZ t
theorem RowsZ.cur {ini : List El} {lat : List (List El)} (h : RowsZ ini lat) : RowZ (curB ini lat) := by
  unfold curB
  cases e : lat.getLast? with
  | none => exact h ini List.mem_cons_self
  | some t => exact h t (List.mem_cons_of_mem _ (List.mem_of_getLast? e))
theorem RowsZ.snoc {ini : List El} {lat : List (List El)} (h : RowsZ ini lat) {t : List El} (ht : RowZ t) : RowsZ ini (lat ++ [t]) := fun u hu => by
  rcases List.mem_cons.mp hu with rfl | hu
  · exact h _ List.mem_cons_self
  · rcases List.mem_append.mp hu with hu | hu
    · exact h u (List.mem_cons_of_mem _ hu)
    · rw [List.mem_singleton.mp hu]
      exact ht
theorem OmOk.z {o : Om} (h : OmOk o) : match o with
  | .put _ e => ElZ 1900 e
  | .exch _ e => ElZ 1900 e
  | _ => True := by
  cases o with
  | put i e => exact el_z h.2.1 (by decide)
  | exch i e => exact el_z h.2.1 (by decide)
  | take i => trivial
  | undo => trivial
theorem mem_cut {α : Type} {l m : List α} {i j : Nat} {x : α} (h : x ∈ l.take i ++ m ++ l.drop j) : x ∈ l ∨ x ∈ m := by
  rcases List.mem_append.mp h with h | h
  · rcases List.mem_append.mp h with h | h
    · exact .inl (List.mem_of_mem_take h)
    · exact .inr h
  · exact .inl (List.mem_of_mem_drop h)
theorem step_rowsZ {ini : List El} {lat : List (List El)} {o : Om} (h : RowsZ ini lat) (ho : OmOk o) : RowsZ ini (stepB ini lat o).2 := by
  have hc := h.cur
  have hz := ho.z
  cases o with
  | undo =>
    rw [st_undo]
    split
    · exact h
    · intro t ht
      rcases List.mem_cons.mp ht with rfl | ht
      · exact h _ List.mem_cons_self
      · exact h t (List.mem_cons_of_mem _ ((List.dropLast_sublist lat).subset ht))
  | put i e =>
    rw [st_put]
    split
    · exact h
    · split
      · exact h
      · rename_i g1 g2
        refine h.snoc ⟨?_, fun x hx => ?_⟩
        · rw [List.length_append, List.length_append, List.length_take, List.length_drop]
          have := hc.1
          show _ + 1 + _ ≤ _
          omega
        · rcases mem_cut hx with hx | hx
          · exact hc.2 x hx
          · rw [List.mem_singleton.mp hx]
            exact hz
  | take i =>
    rw [st_take]
    split
    · exact h
    · refine h.snoc ⟨?_, fun x hx => ?_⟩
      · rw [List.length_append, List.length_take, List.length_drop]
        have := hc.1
        omega
      · rcases List.mem_append.mp hx with hx | hx
        · exact hc.2 x (List.mem_of_mem_take hx)
        · exact hc.2 x (List.mem_of_mem_drop hx)
  | exch i e =>
    rw [st_exch]
    cases q : idxOk i (curB ini lat).length with
    | false =>
      rw [if_pos rfl]
      exact h
    | true =>
      rw [if_neg (by decide)]
      obtain ⟨_, li⟩ := nat_of_idx q
      refine h.snoc ⟨?_, fun x hx => ?_⟩
      · rw [List.length_append, List.length_append, List.length_take, List.length_drop]
        have := hc.1
        show _ + 1 + _ ≤ _
        omega
      · rcases mem_cut hx with hx | hx
        · exact hc.2 x hx
        · rw [List.mem_singleton.mp hx]
          exact hz
def ResZ : Res → Prop
  | .ok d => Lg 2 4000 d
  | .pos i => i.natAbs ≤ 100
  | .elt i => i.natAbs ≤ 100
  | .full => True
theorem step_resZ {ini : List El} {lat : List (List El)} {o : Om} (h : RowsZ ini lat) (ho : OmOk o) : ResZ (stepB ini lat o).1 := by
  have hc := h.cur
  have gd : ∀ i : Int, idxOk i (curB ini lat).length = true → Lg 2 4000 (elD ((curB ini lat).getD i.toNat (.gap 0))) := fun i hi => by
    obtain ⟨_, h2⟩ := nat_of_idx hi
    refine lg_el (hc.2 _ ?_)
    rw [List.getD_eq_getElem?_getD, List.getElem?_eq_getElem h2]
    exact List.getElem_mem h2
  cases o with
  | undo =>
    rw [st_undo]
    split <;> exact (B.lg_bl _).le (by decide) (by decide)
  | put i e =>
    rw [st_put]
    split
    · exact ho.1
    · split
      · trivial
      · exact (lg_nat (by have := hc.1; omega)).le (by decide) (by decide)
  | take i =>
    rw [st_take]
    cases q : idxOk i (curB ini lat).length with
    | false =>
      rw [if_pos rfl]
      exact ho
    | true =>
      rw [if_neg (by decide)]
      exact gd i q
  | exch i e =>
    rw [st_exch]
    cases q : idxOk i (curB ini lat).length with
    | false =>
      rw [if_pos rfl]
      exact ho.1
    | true =>
      rw [if_neg (by decide)]
      exact gd i q
theorem sh_resZ {r : Res} (h : ResZ r) : shows (resD r) := by
  have two : ∀ {s : Str} {d : Dt}, Lg 2 4000 (.str s) → Lg 2 4000 d → shows (.tup [.str s, d]) := fun {s d} h1 h2 => (lg_tup (ds := [.str s, d]) (all_cons h1 (all_cons h2 all_nil))).shows (by decide) (by show 2 * (4000 + 2) + 3 ≤ 16000000; decide)
  have one : ∀ {s : Str}, Lg 2 4000 (.str s) → shows (.tup [.str s]) := fun {s} h1 => (lg_tup (ds := [.str s]) (all_cons h1 all_nil)).shows (by decide) (by show 1 * (4000 + 2) + 3 ≤ 16000000; decide)
  cases r with
  | ok d => exact two (lg_s rfl (by decide +kernel) (Nat.le_refl _)) h
  | pos i => exact two (lg_s rfl (by decide +kernel) (Nat.le_refl _)) (lg_100 h)
  | elt i => exact two (lg_s rfl (by decide +kernel) (Nat.le_refl _)) (lg_100 h)
  | full => exact one (lg_s rfl (by decide +kernel) (Nat.le_refl _))
theorem lg_trZ {t : List El} (h : RowZ t) : Lg 3 80043 (trD t) := (lg_lst (all_map fun e he => lg_el (h.2 e he))).le (Nat.le_refl _) (by
  rw [List.length_map]
  have : t.length * (4000 + 2) ≤ 20 * (4000 + 2) := Nat.mul_le_mul h.1 (Nat.le_refl _)
  omega)
theorem lg_rowsZ {rows : List (List El)} (h : ∀ t ∈ rows, RowZ t) (hl : rows.length ≤ 50) : Lg 4 4002253 (rowsD rows) := (lg_lst (all_map fun t ht => lg_trZ (h t ht))).le (Nat.le_refl _) (by
  have e : (rows.map trD).length ≤ 50 := by simpa using hl
  exact Nat.le_trans (Nat.add_le_add_right (Nat.mul_le_mul_right 80045 e) 3) (Nat.le_of_ble_eq_true rfl))
theorem sh_rightZ {ini : List El} {lat : List (List El)} (h : RowsZ ini lat) (hl : lat.length ≤ 50) : shows (.lst [trD (curB ini lat), .int (lat.length : Nat), rowsD lat]) :=
  (lg_lst (ds := [trD (curB ini lat), .int (lat.length : Nat), rowsD lat]) (all_cons ((lg_trZ h.cur).le (by decide) (by decide)) (all_cons ((lg_nat (n := lat.length) (by omega)).le (by decide) (by decide)) (all_cons (lg_rowsZ (fun t ht => h t (List.mem_cons_of_mem _ ht)) hl) all_nil)))).shows (by decide) (by show 3 * (4002253 + 2) + 3 ≤ 16000000; decide)

section
variable {os : RT.OS} {st : List Cell} {k kl : Nat} {ini : List El} {lat : List (List El)} {QO : Vl → List Cell → RT.OS → Prop} {Ex : EXS} {o : Om}
theorem xret_listO {t : RT.OS → DE} {xs : List Dt} {m : M} {Ex : EXO} {E : DOEnds} (h : Ev (t os) m (.lst xs)) (hQ : E.rt (.c m.st.length) ⟨m.sl, m.st ++ [.lst xs]⟩ os) : xRet (xE fun os => dListO (dCons (t os) dNil)) Ex E m os := h _ hQ
theorem xret_evC {t : RT.OS → DE} {m : M} {Ex : EXO} {E : DOEnds} (h : EvC (t os) m k) (hQ : E.rt (.c k) m os) : xS (fun os => dRet (t os)) Ex E m os := h _ hQ
theorem btrainO_ok (B : BAt os st k kl ini lat) (hi : ini.length ≤ 100000) (hc : (curB ini lat).length ≤ 100000) (h : ∀ ys : List Dt, ys.length ≤ 100000 → QO (.c st.length) (st ++ [.lst ys]) os) : sp_Bench_train_own [.c k] st os QO Ex := by
  unfold sp_Bench_train_own
  refine ⟨rfl, ?_⟩
  let m0 : M := ⟨[some (.c k)], st⟩
  have v0 : EvC (dVar 0) m0 k := evC_var rfl
  have t0 : Tv (dTru (dFld os "Bench" "later" (dVar 0))) m0 (!(lat.map trD).isEmpty) := tv_truC (evC_fld v0 B.o lk_lat) B.s
  by_cases hl : lat = []
  · rw [hl] at t0
    refine xguard m0 t0 ?_
    have key := h (ini.map elD) (by rw [List.length_map]; exact hi)
    exact xret_listO (t := fun os => dFld os "Bench" "initial" (dVar 0)) (ev_fld v0 B.o lk_ini) key
  · have e : (!(lat.map trD).isEmpty) = true := by
      cases lat with
      | nil => exact absurd rfl hl
      | cons a r => rfl
    rw [e] at t0
    refine xthen m0 t0 ?_
    have key := h ((curB ini lat).map elD) (by rw [List.length_map]; exact hc)
    have e1 : Ev (dOp RT.rIx (dFld os "Bench" "later" (dVar 0)) (rU rNeg (dC (.int 1)))) m0 (trD (curB ini lat)) := ev_ixC (evC_fld v0 B.o lk_lat) B.s (jv_neg (ev_c (.int 1))) (atI_last (trl_last hl))
    exact xret_listO (t := fun os => dOp RT.rIx (dFld os "Bench" "later" (dVar 0)) (rU rNeg (dC (.int 1)))) e1 key
theorem lcopy_ok {sl slw : List (Option Vl)} {i : Nat} {st : List Cell} {kl : Nat} {lat : List (List El)} {K : List Dt → M → Prop} (hi : i < slw.length) (hs : st[kl]? = some (.lst (lat.map trD))) (hl : lat.length ≤ 100000) (h : K (lat.map trD) ⟨sl, st⟩) :
    dLcGo sl slw (.nm i) dYes (dBi bList (dCons (dVar i) dNil)) (lat.map trD) (some kl) K (lat.map trD) [] st := by
  refine lc_inv (lk := some kl) trD (fun r acc st' => st' = st ∧ ∃ rest, r = rest.map trD ∧ acc ++ rest = lat) (fun _ _ _ hI => by rw [hI.1]; exact hs) ?_ ?_ ?_ _ [] _ ⟨rfl, lat, rfl, rfl⟩
  · rintro x r acc st' ⟨_, rest, e1, e2⟩
    have : acc.length + rest.length = lat.length := by rw [← e2, List.length_append]
    exact small_lt (by omega)
  · rintro x r acc st' P ⟨rfl, rest, e1, e2⟩ hP
    cases rest with
    | nil => cases e1
    | cons a rest =>
      injection e1 with e3 e4
      subst e3
      exact (jv_list (ev_var (i := i) (d := trD a) (by rw [List.getElem?_set, if_pos rfl, if_pos hi]))) _ (hP a _ ⟨rfl, rest, e4, by rw [List.append_assoc]; exact e2⟩)
  · rintro acc st' ⟨rfl, rest, e1, e2⟩
    cases rest with
    | cons a rest => cases e1
    | nil =>
      rw [List.append_nil] at e2
      rw [e2]
      exact h
theorem bhistO_ok (B : BAt os st k kl ini lat) (hl : lat.length ≤ 100000) (h : ∀ ys : List Dt, ys.length ≤ 100000 → QO (.c st.length) (st ++ [.lst ys]) os) : sp_Bench_history_own [.c k] st os QO Ex := by
  unfold sp_Bench_history_own
  refine ⟨rfl, ?_⟩
  have hE : EvC (dFld os "Bench" "later" (dVar 0)) ⟨[some (.c k), none], st⟩ kl := evC_fld (evC_var (i := 0) rfl) B.o lk_lat
  unfold w_Bench_history_own
  dsimp only [xRet, xE, dLc, dAny]
  refine hE _ ?_
  refine onC_mk B.s ?_
  refine lcopy_ok (by show 1 < 2; decide) B.s hl ?_
  rw [if_pos rfl]
  exact h _ (by rw [List.length_map]; exact hl)
theorem put_later {a b v : Vl} : putV ("later" : Str) v [(("initial" : Str), a), (("later" : Str), b)] = [(("initial" : Str), a), (("later" : Str), v)] := by
  unfold putV
  rw [if_neg (by decide +kernel)]
  unfold putV
  rw [if_pos rfl]
theorem bbranch_ok (B : BAt os st k kl ini lat) (hk : k < st.length) (hn : ini.length ≤ 20) (hl : lat.length ≤ 100000)
    (h : ∀ st' os' kl', StExt st st' → (∀ j, j < st.length → os'.lookup j = os.lookup j) → st.length < st'.length → st.length ≤ kl' → BAt os' st' st.length kl' ini lat → QO (.c st.length) st' os') : sp_Bench_branch_2 [.c k] st os QO Ex := by
  unfold sp_Bench_branch_2
  refine ⟨rfl, ?_⟩
  let m0 : M := ⟨[some (.c k), none, none], st⟩
  refine xset_make (m := m0) (vs := [.d (trD ini)]) (ja1 (ev_fld (evC_var rfl) B.o lk_ini)) ?_
  refine binit_ok hn ⟨rfl, ?_⟩
  have l0 : (st ++ [Cell.dead]).length = st.length + 1 := by simp
  rw [l0]
  have l1 : (st ++ [Cell.dead] ++ [Cell.lst []]).length = st.length + 2 := by simp
  let st1 := st ++ [Cell.dead] ++ [Cell.lst []]
  let os1 := setO os st.length (benchO ini (st.length + 1))
  let m1 : M := ⟨[some (.c k), some (.c st.length), none], st1⟩
  show (xSeq _ _) _ _ m1 os1
  have hkl : kl < st.length := (List.getElem?_eq_some_iff.mp B.s).1
  have hs1 : st1[kl]? = some (.lst (lat.map trD)) := by
    show (st ++ [Cell.dead] ++ [Cell.lst []])[kl]? = _
    rw [List.getElem?_append_left (by omega), List.getElem?_append_left hkl]
    exact B.s
  have lo : ∀ j, j < st.length → ∀ x, (setO os st.length x).lookup j = os.lookup j := fun j hj x => by rw [lookup_setO, if_neg (by omega)]
  have hb1 : os1.lookup k = some (benchO ini kl) := by
    rw [lo k hk]
    exact B.o
  have hE : EvC (dFld os1 "Bench" "later" (dVar 0)) m1 kl := evC_fld (evC_var (i := 0) rfl) hb1 lk_lat
  dsimp only [xSeq, xFld, xE, dLc, dAny]
  refine hE _ ?_
  refine onC_mk hs1 ?_
  refine lcopy_ok (by show 2 < 3; decide) hs1 hl ?_
  rw [if_pos rfl]
  refine ⟨st.length, [(("initial" : Str), .d (trD ini)), (("later" : Str), .c (st.length + 1))], rfl, lk_set _, (by show 2 < 900; decide), ?_⟩
  rw [set_set, put_later]
  refine xret_evC (t := fun _ => dVar 1) (m := ⟨[some (.c k), some (.c st.length), none], st1 ++ [.lst (lat.map trD)]⟩) (k := st.length) (evC_var (i := 1) rfl) ?_
  refine h (st1 ++ [.lst (lat.map trD)]) _ st1.length ((StExt.app.trans StExt.app).trans StExt.app) (fun j hj => lo j hj _) (by rw [List.length_append]; show _ < (st ++ [Cell.dead] ++ [Cell.lst []]).length + _; omega) (by show _ ≤ (st ++ [Cell.dead] ++ [Cell.lst []]).length; omega) ⟨lk_set _, at_app1⟩
theorem xtryM_of {b : DSO} {hs : HdL} {Ex : EXO} {E : DOEnds} {m : M} {os : RT.OS} (h : b (fun x d m1 os1 => ∃ p ∈ hs, ∃ t, (x, t) ∈ p.2 ∧ suRun p.1 t x d E m1 os1) E m os) : xTryM b hs Ex E m os := h
theorem xtup_told {s : Str} {t : DEO} {Ex : EXO} {E : DOEnds} {m : M} {os : RT.OS} (h : t Ex m os fun v m1 os1 => 2 ≤ sizeLine ∧ onDs [.d (.str s), v] fun xs => E.rt (.d (.tup xs)) m1 os1) :
    xRet (xTup (xCons (xE fun _ => dC (.str s)) (xCons t xNil))) Ex E m os := h
theorem ltried_ok (B : BAt os st k kl ini lat) (ho : OmOk o) (hc : (curB ini lat).length ≤ 20) (hl : lat.length < 100000)
    (h : ∀ st', StUp st st' kl kl → st'[kl]? = some (.lst ((stepB ini lat o).2.map trD)) → QO (.d (resD (stepB ini lat o).1)) st' os) : sp__law_tried [.c k, .d (omD o)] st os QO Ex := by
  unfold sp__law_tried
  refine ⟨rfl, ?_⟩
  let m0 : M := ⟨[some (.c k), some (.d (omD o)), none], st⟩
  refine xtryM_of (m := m0) ?_
  have hkl : kl < st.length := (List.getElem?_eq_some_iff.mp B.s).1
  have s1 : (stK kl (stepB ini lat o).2 st)[kl]? = some (.lst ((stepB ini lat o).2.map trD)) := by
    unfold stK
    rw [List.getElem?_set, if_pos rfl, if_pos hkl]
  have hA := h _ (StUp.setl (kd := kl) (.lst ((stepB ini lat o).2.map trD))) s1
  have hB := h (stK kl (stepB ini lat o).2 st ++ [.dead]) ((StUp.setl (kd := kl) (.lst ((stepB ini lat o).2.map trD))).trans StUp.app) (by
    rw [List.getElem?_append_left (by unfold stK; rw [List.length_set]; exact hkl)]
    exact s1)
  have fin : ∀ (r : Res) (st1 : List Cell), QO (.d (resD r)) st1 os → QO (.d (resD r)) (st1 ++ [.dead]) os → resQ r (fun v st' os' => 2 ≤ sizeLine ∧ onDs [.d (.str ("told" : Str)), v] fun xs => QO (.d (.tup xs)) st' os')
      (fun x d st' os' => ∃ p ∈ ([(some 2, [(("NoSuchPosition" : Str), (fun a bd os => (dRet (dTup (dCons (dC (.str ("position" : Str))) (dCons (dXf os 2 ("NoSuchPosition" : Str) a bd) dNil))))))]), (some 2, [(("NoSuchElement" : Str), (fun a bd os => (dRet (dTup (dCons (dC (.str ("element" : Str))) (dCons (dXf os 2 ("NoSuchElement" : Str) a bd) dNil))))))]), (none, [(("TrainFull" : Str), (fun a bd os => (dRet (dTup (dCons (dC (.str ("full" : Str))) dNil)))))])] : HdL), ∃ t, (x, t) ∈ p.2 ∧ suRun p.1 t x d ⟨fun m os => QO (.d .non) m.st os, fun v m os => QO v m.st os, fun _ _ => False, fun _ _ => False⟩ ⟨m0.sl, st'⟩ os') st1 os := fun r st1 h1 h2 => by
    cases r with
    | ok d => exact ⟨lineN rfl, h1⟩
    | pos i => exact ⟨_, List.mem_cons_self, _, List.mem_singleton.mpr rfl, su_as rfl (by show 2 < 3; decide) fun _ => h2⟩
    | elt i => exact ⟨_, List.mem_cons_of_mem _ List.mem_cons_self, _, List.mem_singleton.mpr rfl, su_as rfl (by show 2 < 3; decide) fun _ => h2⟩
    | full => exact ⟨_, List.mem_cons_of_mem _ (List.mem_cons_of_mem _ List.mem_cons_self), _, List.mem_singleton.mpr rfl, su_no h1⟩
  have hf := fin (stepB ini lat o).1 _ hA hB
  have hd : m0.sl[1]? = some (some (.d (omD o))) := rfl
  have t1 := tv_test (ev_isM s_put hd)
  have t2 := tv_test (ev_isM s_take hd)
  have t3 := tv_test (ev_isM s_exch hd)
  have v0 : EvC (dVar 0) m0 k := evC_var rfl
  have hl2 : lat.length < 1000000 := by omega
  cases o with
  | put i e =>
    rw [show decide (nmM (.put i e) = ("put" : Str)) = true from decide_eq_true rfl] at t1
    refine xthen m0 t1 (xtup_told ?_)
    refine xmeth v0 B.o (lk_two (by decide +kernel) (by decide +kernel)) (ja2 (ev_ixt (xs := [.str ("put" : Str), .int i, elD e]) (ev_var (i := 1) rfl) (ev_c (.int 1)) rfl) (ev_ixt (xs := [.str ("put" : Str), .int i, elD e]) (ev_var (i := 1) rfl) (ev_c (.int 2)) rfl)) ?_
    exact bput_ok B (Nat.le_trans ho.1 (by decide)) hc hl2 hf
  | take i =>
    rw [show decide (nmM (.take i) = ("put" : Str)) = false from decide_eq_false (by show ("take" : Str) ≠ "put"; decide +kernel)] at t1
    rw [show decide (nmM (.take i) = ("take" : Str)) = true from decide_eq_true rfl] at t2
    refine xguard m0 t1 ?_
    refine xthen m0 t2 (xtup_told ?_)
    refine xmeth v0 B.o (lk_two (by decide +kernel) (by decide +kernel)) (ja1 (ev_ixt (xs := [.str ("take" : Str), .int i]) (ev_var (i := 1) rfl) (ev_c (.int 1)) rfl)) ?_
    exact btake_ok B (Nat.le_trans ho (by decide)) hc hl2 hf
  | exch i e =>
    rw [show decide (nmM (.exch i e) = ("put" : Str)) = false from decide_eq_false (by show ("exchange" : Str) ≠ "put"; decide +kernel)] at t1
    rw [show decide (nmM (.exch i e) = ("take" : Str)) = false from decide_eq_false (by show ("exchange" : Str) ≠ "take"; decide +kernel)] at t2
    rw [show decide (nmM (.exch i e) = ("exchange" : Str)) = true from decide_eq_true rfl] at t3
    refine xguard m0 t1 ?_
    refine xguard m0 t2 ?_
    refine xthen m0 t3 (xtup_told ?_)
    refine xmeth v0 B.o (lk_two (by decide +kernel) (by decide +kernel)) (ja2 (ev_ixt (xs := [.str ("exchange" : Str), .int i, elD e]) (ev_var (i := 1) rfl) (ev_c (.int 1)) rfl) (ev_ixt (xs := [.str ("exchange" : Str), .int i, elD e]) (ev_var (i := 1) rfl) (ev_c (.int 2)) rfl)) ?_
    exact bexch_ok B (Nat.le_trans ho.1 (by decide)) hc hl2 hf
  | undo =>
    rw [show decide (nmM .undo = ("put" : Str)) = false from decide_eq_false (by show ("undo" : Str) ≠ "put"; decide +kernel)] at t1
    rw [show decide (nmM .undo = ("take" : Str)) = false from decide_eq_false (by show ("undo" : Str) ≠ "take"; decide +kernel)] at t2
    rw [show decide (nmM .undo = ("exchange" : Str)) = false from decide_eq_false (by show ("undo" : Str) ≠ "exchange"; decide +kernel)] at t3
    refine xguard m0 t1 ?_
    refine xguard m0 t2 ?_
    refine xguard m0 t3 (xtup_told ?_)
    refine xmeth0 v0 B.o (lk_two (by decide +kernel) (by decide +kernel)) ?_
    exact bundo_ok B hf
theorem onDs3 {a b c : Dt} {Q : List Dt → Prop} (h : Q [a, b, c]) : onDs [.d a, .d b, .d c] Q := h
theorem lright_ok (B : BAt os st k kl ini lat) (hr : RowsZ ini lat) (hl : lat.length ≤ 50) (h : QO (.d (.bl true)) st os) : sp__law_right [.c k, .d (rowsD (ini :: lat))] st os QO Ex := by
  unfold sp__law_right
  refine ⟨rfl, ?_⟩
  let m0 : M := ⟨[some (.c k), some (.d (rowsD (ini :: lat)))], st⟩
  show w__law_right _ _ m0 os
  unfold w__law_right
  dsimp only [xRet, xCall, xCons, xA, xNil, xE, xLst]
  refine xmeth0 (c := "Bench") (mm := "train") (k := k) (Ex := fun x d m os => Ex x d m.st os) (t := fun _ => dVar 0) (evC_var (m := m0) (i := 0) rfl) B.o (lk_two (by decide +kernel) (by decide +kernel)) ?_
  refine btrain_ok B ?_
  refine xmeth0 (c := "Bench") (mm := "operations") (k := k) (Ex := fun x d m os => Ex x d m.st os) (t := fun _ => dVar 0) (evC_var (m := m0) (i := 0) rfl) B.o (lk_two (by decide +kernel) (by decide +kernel)) ?_
  refine bops_ok B ?_
  refine xmeth0 (c := "Bench") (mm := "history") (k := k) (Ex := fun x d m os => Ex x d m.st os) (t := fun _ => dVar 0) (evC_var (m := m0) (i := 0) rfl) B.o (lk_two (by decide +kernel) (by decide +kernel)) ?_
  refine bhist_ok B (by omega) ?_
  refine ⟨lineN rfl, ?_⟩
  have v1 : Ev (dVar 1) m0 (.lst ((ini :: lat).map trD)) := ev_var rfl
  have e1 : Ev (dOp RT.rIx (dVar 1) (rU rNeg (dC (.int 1)))) m0 (trD (curB ini lat)) := ev_ix (i := -1) v1 (jv_neg (ev_c (.int 1))) rows_last
  have e2 : Ev (dOp RT.rSub (dBi bLen (dCons (dVar 1) dNil)) (dC (.int 1))) m0 (.int (lat.length : Nat)) := by
    have := ev_subn (j := 1) (i := ((ini :: lat).map trD).length) (by rw [List.length_map, List.length_cons]; omega) (jv_len v1) (ev_c _)
    rw [List.length_map, List.length_cons, Nat.add_sub_cancel] at this
    exact this
  have e3 : Ev (dSl false (dVar 1) (dPart (dC (.int 1))) dNoP) m0 (rowsD lat) := jv_slF (f := trD) (l := ini :: lat) (j := 1) (t := dVar 1) v1 (ev_c (.int 1))
  have e4 : Ev (dLst (dCons (dOp RT.rIx (dVar 1) (rU rNeg (dC (.int 1)))) (dCons (dOp RT.rSub (dBi bLen (dCons (dVar 1) dNil)) (dC (.int 1))) (dCons (dSl false (dVar 1) (dPart (dC (.int 1))) dNoP) dNil)))) m0 (.lst [trD (curB ini lat), .int (lat.length : Nat), rowsD lat]) := ev_lst3 e1 e2 e3
  refine onDs3 ?_
  refine e4 _ ?_
  exact same_ok (d := .lst [trD (curB ini lat), .int (lat.length : Nat), rowsD lat]) (sh_rightZ hr hl) h
theorem lrefused_ok {t : List El} (hn : 20 < t.length) (h : ∀ st' os', QO (.d (.bl true)) st' os') : sp__law_refused [.d (trD t)] st os QO Ex := by
  unfold sp__law_refused
  refine ⟨rfl, ?_⟩
  let m0 : M := ⟨[some (.d (trD t))], st⟩
  show w__law_refused _ _ m0 os
  unfold w__law_refused
  dsimp only [xSeq, xTry0, xDo, xMake, xA]
  refine (ja1 (ev_var (m := m0) (i := 0) (d := trD t) rfl)) _ ?_
  refine binit_full hn ?_
  exact ⟨_, List.mem_singleton.mpr rfl, h _ _⟩
end
end X
end PG

set_option maxRecDepth 100000
set_option maxHeartbeats 400000

namespace PG
open PySem PySem.Spec PyProof.Rows L2 RT S
namespace X
structure Bt where
  k : Nat
  kl : Nat
  lat : List (List El)
def prsB (ini : List El) (bs : List Bt) : Prs := bs.map fun b => (b.k, rowsD (ini :: b.lat))
structure BsOk (os : RT.OS) (st : List Cell) (ini : List El) (t : Nat) (bs : List Bt) : Prop where
  at_ : ∀ b ∈ bs, BAt os st b.k b.kl ini b.lat ∧ b.k < st.length ∧ 0 < b.kl ∧ RowsZ ini b.lat ∧ b.lat.length ≤ t
  nd : bs.Pairwise fun a b => a.kl ≠ b.kl
section
variable {os os' : RT.OS} {st st' : List Cell} {ini : List El} {t n : Nat} {bs : List Bt} {b : Bt}
theorem BAt.lt {k kl : Nat} {lat : List (List El)} (B : BAt os st k kl ini lat) : kl < st.length := (List.getElem?_eq_some_iff.mp B.s).1
theorem BsOk.ext (h : BsOk os st ini t bs) (e : StExt st st') (ho : ∀ j, j < st.length → os'.lookup j = os.lookup j) : BsOk os' st' ini t bs :=
  ⟨fun b hb => by
    obtain ⟨B, h1, h2, h3, h4⟩ := h.at_ b hb
    exact ⟨⟨by rw [ho _ h1]; exact B.o, by rw [e.same _ B.lt]; exact B.s⟩, Nat.lt_of_lt_of_le h1 e.len, h2, h3, h4⟩, h.nd⟩
theorem BsOk.mono (h : BsOk os st ini t bs) {t' : Nat} (ht : t ≤ t') : BsOk os st ini t' bs :=
  ⟨fun b hb => by
    obtain ⟨B, h1, h2, h3, h4⟩ := h.at_ b hb
    exact ⟨B, h1, h2, h3, Nat.le_trans h4 ht⟩, h.nd⟩
theorem BsOk.set0 (h : BsOk os st ini t bs) (c : Cell) : BsOk os (st.set 0 c) ini t bs :=
  ⟨fun b hb => by
    obtain ⟨B, h1, h2, h3, h4⟩ := h.at_ b hb
    exact ⟨⟨B.o, by rw [List.getElem?_set, if_neg (by omega)]; exact B.s⟩, by rw [List.length_set]; exact h1, h2, h3, h4⟩, h.nd⟩
theorem BsOk.push (h : BsOk os st ini t bs) (e : StExt st st') (ho : ∀ j, j < st.length → os'.lookup j = os.lookup j) {nb : Bt} (B : BAt os' st' nb.k nb.kl ini nb.lat) (h1 : nb.k < st'.length) (h2 : st.length ≤ nb.kl) (h0 : 0 < st.length) (h3 : RowsZ ini nb.lat) (h4 : nb.lat.length ≤ t) : BsOk os' st' ini t (bs ++ [nb]) :=
  ⟨fun b hb => by
    rcases List.mem_append.mp hb with hb | hb
    · exact (h.ext e ho).at_ b hb
    · rw [List.mem_singleton.mp hb]
      exact ⟨B, h1, by omega, h3, h4⟩, by
    refine List.pairwise_append.mpr ⟨h.nd, List.pairwise_singleton _ _, fun a ha b hb => ?_⟩
    rw [List.mem_singleton.mp hb]
    have := (h.at_ a ha).1.lt
    omega⟩
theorem BsOk.step (h : BsOk os st ini t bs) (hn : bs[n]? = some b) (su : StUp st st' b.kl b.kl) {lat' : List (List El)} (hs : st'[b.kl]? = some (.lst (lat'.map trD))) (hr : RowsZ ini lat') (hl : lat'.length ≤ t + 1) : BsOk os st' ini (t + 1) (bs.set n ⟨b.k, b.kl, lat'⟩) := by
  have hlt := (List.getElem?_eq_some_iff.mp hn).1
  have eb := (List.getElem?_eq_some_iff.mp hn).2
  have pw := List.pairwise_iff_getElem.mp h.nd
  have ne : ∀ (i : Nat) (hi : i < bs.length), i ≠ n → bs[i].kl ≠ b.kl := fun i hi e => by
    rcases Nat.lt_or_gt_of_ne e with g | g
    · have := pw i n hi hlt g
      rw [eb] at this
      exact this
    · have := pw n i hlt hi g
      rw [eb] at this
      exact fun z => this z.symm
  refine ⟨fun c hc => ?_, ?_⟩
  · obtain ⟨i, hi⟩ := List.getElem?_of_mem hc
    rw [List.getElem?_set] at hi
    by_cases e : n = i
    · rw [if_pos e, if_pos hlt] at hi
      cases hi
      obtain ⟨B, h1, h2, _, _⟩ := h.at_ b (List.mem_of_getElem? hn)
      exact ⟨⟨B.o, hs⟩, Nat.lt_of_lt_of_le h1 su.len, h2, hr, hl⟩
    · rw [if_neg e] at hi
      obtain ⟨hi1, hi2⟩ := List.getElem?_eq_some_iff.mp hi
      obtain ⟨B, h1, h2, h3, h4⟩ := h.at_ c (List.mem_of_getElem? hi)
      have nk : c.kl ≠ b.kl := by
        have := ne i hi1 (fun z => e z.symm)
        rw [hi2] at this
        exact this
      exact ⟨⟨B.o, by rw [su.same _ B.lt nk nk]; exact B.s⟩, Nat.lt_of_lt_of_le h1 su.len, h2, h3, Nat.le_succ_of_le h4⟩
  · refine List.pairwise_iff_getElem.mpr fun i j hi hj hij => ?_
    rw [List.length_set] at hi hj
    have key : ∀ (i : Nat) (hi : i < bs.length), ((bs.set n ⟨b.k, b.kl, lat'⟩)[i]'(by rw [List.length_set]; exact hi)).kl = bs[i].kl := fun i hi => by
      rw [List.getElem_set]
      split
      · rename_i e
        subst e
        rw [eb]
      · rfl
    rw [key i hi, key j hj]
    exact pw i j hi hj hij
theorem prsB_get (hn : bs[n]? = some b) : (prsB ini bs)[n]? = some (b.k, rowsD (ini :: b.lat)) := by
  unfold prsB
  rw [List.getElem?_map, hn]
  rfl
theorem prsB_set {lat' : List (List El)} (k kl : Nat) : (prsB ini bs).set n (k, rowsD (ini :: lat')) = prsB ini (bs.set n ⟨k, kl, lat'⟩) := by
  unfold prsB
  rw [List.map_set]
theorem prsB_len : (prsB ini bs).length = bs.length := by
  unfold prsB
  rw [List.length_map]
end

section
variable {m : M} {E : DGEnds} {Ex : EXO} {os : RT.OS} {kg : Nat} {ps : Prs} {t u : DGO}
theorem gseq_to (P : Prs → M → RT.OS → Prop) (h : ∀ K : Prs → M → RT.OS → Prop, (∀ ps m os, P ps m os → K ps m os) → t Ex ⟨K, E.rt⟩ kg ps m os) (hu : ∀ ps m os, P ps m os → u Ex E kg ps m os) : gSeqO t u Ex E kg ps m os := h _ hu
theorem geach_inv {i : Nat} {b : DGO} {all : List Dt} {α : Type} (f : α → Dt) (I : List α → Prs → M → RT.OS → Prop)
    (hs : ∀ x r ps m os (K : Prs → M → RT.OS → Prop), (∀ ps' m' os', I r ps' m' os' → K ps' m' os') → I (x :: r) ps m os → b Ex ⟨K, E.rt⟩ kg ps ⟨m.sl.set i (some (.d (f x))), m.st⟩ os) (hd : ∀ ps m os, I [] ps m os → E.nx ps m os) :
    ∀ (xs : List α) (ps : Prs) (m : M) (os : RT.OS), I xs ps m os → gLoopO (.nm i) b all none Ex E kg (xs.map f) ps m os
  | [], ps, m, os, h => ⟨trivial, hd ps m os h⟩
  | x :: r, ps, m, os, h => ⟨trivial, hs x r ps m os _ (fun ps' m' os' h' => geach_inv f I hs hd r ps' m' os' h') h⟩
theorem gloopP_inv {i1 i2 : Nat} {b : DSO} {all : Prs} (I : M → RT.OS → Prop)
    (hs : ∀ (k : Nat) (d : Dt) (m : M) (os : RT.OS) (K : M → RT.OS → Prop), (∀ m' os', I m' os' → K m' os') → (k, d) ∈ all → I m os → b Ex ⟨K, E.rt, fun _ _ => False, fun _ _ => False⟩ ⟨(m.sl.set i1 (some (.c k))).set i2 (some (.d d)), m.st⟩ os) (hd : ∀ m os, I m os → E.nx all m os) :
    ∀ (r : Prs) (m : M) (os : RT.OS), (∀ p ∈ r, p ∈ all) → I m os → gLoopP i1 i2 b Ex E all r m os
  | [], m, os, _, h => hd m os h
  | (k, d) :: r, m, os, hr, h => hs k d m os _ (fun m' os' h' => gloopP_inv I hs hd r m' os' (fun p hp => hr p (List.mem_cons_of_mem _ hp)) h') (hr _ List.mem_cons_self) h
theorem gasgL2 {t : RT.OS → DE} {a b : Dt} {i j : Nat} (h : Ev (t os) m (.lst [a, b])) (hu : u Ex E kg ps ⟨(m.sl.set i (some (.d a))).set j (some (.d b)), m.st⟩ os) : gSeqO (gJ (xS fun os => dAsgL (t os) [i, j])) u Ex E kg ps m os := h _ ⟨rfl, hu⟩
theorem gunp_ok {ig ia i1 i2 n k : Nat} {d : Dt} (h1 : m.sl[ig]? = some (some (.c kg))) (h2 : m.sl[ia]? = some (some (.d (.int (n : Int))))) (h3 : ps[n]? = some (k, d)) (hu : u Ex E kg ps ⟨(m.sl.set i1 (some (.c k))).set i2 (some (.d d)), m.st⟩ os) : gSeqO (gUnp ig ia i1 i2) u Ex E kg ps m os := ⟨h1, n, k, d, h2, h3, hu⟩
theorem xret_call {sp : FSpecO} {ts : RT.OS → DA} {vs : List Vl} {E : DOEnds} (ha : ∀ K : List Vl → M → Prop, K vs m → ts os m K) (hs : sp vs m.st os (fun r st' os' => E.rt r ⟨m.sl, st'⟩ os') (fun x d st' os' => Ex x d ⟨m.sl, st'⟩ os')) : xRet (xCall sp (xA ts)) Ex E m os := ha _ hs
theorem gapp_ok {c mm : Str} {fs : List (Str × Vl)} {k i : Nat} {sp : FSpecO} {te : DE} {d : Dt} (h : EvC (dVar i) m k) (ho : os.lookup k = some (.obj c fs)) (hf : fs.lookup mm = none)
    (hs : ∀ (QO : Vl → List Cell → RT.OS → Prop) (Ex : EXS), (∀ ys : List Dt, ys.length ≤ 100000 → QO (.c m.st.length) (m.st ++ [.lst ys]) os) → sp [.c k] m.st os QO Ex) (he : ∀ st, Ev te ⟨m.sl, st⟩ d) (hu : ∀ st', StExt m.st st' → u Ex E kg ps ⟨m.sl, st'⟩ os) :
    gSeqO (gJ (xDo (xAppO (xMeth c mm sp (xE fun _ => dVar i) xNil) (xA fun _ => dCons te dNil)))) u Ex E kg ps m os := by
  dsimp only [gSeqO, gJ, xDo, xAppO, xA]
  refine xmeth0 (t := fun _ => dVar i) h ho hf (hs _ _ fun ys hy => ?_)
  refine ⟨⟨ys, at_app1⟩, ?_⟩
  refine (ja1 (he (m.st ++ [.lst ys]))) _ ?_
  refine ⟨d, rfl, onC_mk at_app1 ⟨small_lt (by omega), ?_⟩⟩
  refine hu _ ⟨fun j hj => ?_, by rw [List.length_set, List.length_append]; omega⟩
  show ((m.st ++ [Cell.lst ys]).set m.st.length _)[j]? = _
  rw [List.getElem?_set, if_neg (by omega), List.getElem?_append_left hj]
end
end X
end PG

set_option maxRecDepth 100000
set_option maxHeartbeats 400000
namespace PG
open PySem PySem.Spec PyProof.Rows L2 RT S
namespace X
theorem gap_z {i : Nat} (h : i ≤ 100) : ElZ 1900 (.gap ((i : Int) : Rat)) := by
  refine Nat.le_trans (zb_int (i : Int)) ?_
  rw [Int.natAbs_natCast]
  have := log2_mono h
  have e : Nat.log2 100 = 6 := by decide
  omega
theorem gaps_ok {sl slw : List (Option Vl)} {st : List Cell} {N : Nat} {all : List Dt} {K : List Dt → M → Prop} (hi : 14 < slw.length) (hN : N ≤ 100) (h : ∀ es : List El, es.length = N → (∀ e ∈ es, ElZ 1900 e) → K (es.map elD) ⟨sl, st⟩) :
    dLcGo sl slw (.nm 14) dYes (dTup (dCons (dC (.str ("gap" : Str))) (dCons (dTup (dCons (dVar 14) (dCons (dC (.int 1)) dNil))) dNil))) all none K (rangeD 0 N) [] st := by
  rw [show rangeD 0 N = (List.range' 0 N).map fun i : Nat => Dt.int (i : Int) from rangeD_map N 0]
  refine lc_inv (lk := none) elD (fun r acc st' => st' = st ∧ ∃ i, r = (List.range' i (N - i)).map (fun i : Nat => Dt.int (i : Int)) ∧ acc.length = i ∧ i ≤ N ∧ ∀ e ∈ acc, ElZ 1900 e) (fun _ _ _ _ => trivial) ?_ ?_ ?_ _ [] _ ⟨rfl, 0, rfl, rfl, Nat.zero_le _, fun e he => nomatch he⟩
  · rintro x r acc st' ⟨_, i, _, e, hle, _⟩
    exact small_lt (by omega)
  · rintro x r acc st' P ⟨rfl, i, er, e, hle, ha⟩ hP
    have hlt : i < N := by
      cases z : N - i with
      | zero =>
        rw [z] at er
        cases er
      | succ q => omega
    rw [show N - i = (N - (i + 1)) + 1 by omega, List.range'_succ, List.map_cons] at er
    injection er with ex er
    subst ex
    refine (ev_tup2 (m := ⟨slw.set 14 (some (.d (.int (i : Int)))), st'⟩) (ev_c (.str ("gap" : Str))) (ev_tup2 (ev_var (i := 14) (d := .int (i : Int)) (by rw [List.getElem?_set, if_pos rfl, if_pos hi])) (ev_c (.int 1)))) _ ?_
    refine hP (.gap ((i : Int) : Rat)) _ ⟨rfl, i + 1, er, by rw [List.length_append, e]; rfl, hlt, fun y hy => ?_⟩
    rcases List.mem_append.mp hy with hy | hy
    · exact ha y hy
    · rw [List.mem_singleton.mp hy]
      exact gap_z (by omega)
  · rintro acc st' ⟨rfl, i, er, e, hle, ha⟩
    have : i = N := by
      cases z : N - i with
      | zero => omega
      | succ q =>
        rw [z] at er
        cases er
    exact h acc (by omega) ha
end X
open X
theorem law_k56 : LawD 63 (spBr false sp_law_52) := fun ns hl hb => by
  unfold spBr sp_law_52
  refine ⟨rfl, ?_⟩
  let sc : Option Vl := some (.d (.lst (ns.map .int)))
  refine xseq_mid (fun m => ∃ ds : List Int, m = ⟨[sc, some (.c 0), none, none, none, none, none, none, none, none, none, none, none, none, none], [Bx ds 0]⟩) (fun K hK => box_ok hb (by decide) (by decide) fun ds hd hdl => hK _ ⟨ds, rfl⟩) ?_
  rintro _ ⟨ds, rfl⟩
  refine xseq_mid (fun m => ∃ (es : List El) (j : Nat), es.length ≤ 30 ∧ (∀ e ∈ es, ElZ 1900 e) ∧ j ≤ 100 ∧ m = ⟨[sc, some (.c 0), some (.d (trD es)), none, none, none, none, none, none, none, none, none, none, none, none], [Bx ds j]⟩) (fun K hK => train2_ok (n := 5) (k := 0) (i := 0) (ds := ds) (by decide) rfl (by decide) fun es j h1 h2 h3 => hK _ ⟨es, j, by omega, fun e he => el_z (h2 e he) (by decide), by omega, rfl⟩) ?_
  rintro _ ⟨es0, j0, hes0, hel0, hj0, rfl⟩
  refine xseq_mid (fun m => ∃ (es : List El) (j : Nat), es.length ≤ 30 ∧ (∀ e ∈ es, ElZ 1900 e) ∧ j ≤ 200 ∧ m = ⟨[sc, some (.c 0), some (.d (trD es)), none, none, none, none, none, none, none, none, none, none, none, none], [Bx ds j]⟩) (fun K hK => ?_) ?_
  · refine draw2_ok (k := 0) (i := j0) (ds := ds) rfl (by decide) (by omega) fun d d0 d1 => ?_
    by_cases e0 : d = 0
    · refine ⟨rfl, rfl, ?_⟩
      show (if eqD (.int d) (.int 0) = true then _ else _ : Prop)
      rw [eqD_int, decide_eq_true e0, if_pos rfl]
      dsimp only [dSet, dLc, dRange1]
      refine draw2_ok (k := 0) (i := j0 + 1) (ds := ds) rfl (by decide) (by omega) fun r r0 r1 => ?_
      obtain ⟨q, rfl⟩ : ∃ q : Nat, r = (q : Int) := ⟨r.toNat, by omega⟩
      refine ⟨⟨by omega, by omega⟩, ?_⟩
      rw [show ((18 : Int) + (q : Int)).toNat = 18 + q by omega]
      refine gaps_ok (by show 14 < 15; decide) (by omega) fun es hl1 hz => ?_
      rw [if_neg (by decide)]
      exact hK _ ⟨es, j0 + 2, by omega, hz, by omega, rfl⟩
    · refine ⟨rfl, rfl, ?_⟩
      show (if eqD (.int d) (.int 0) = true then _ else _ : Prop)
      rw [eqD_int, decide_eq_false e0, if_neg (by decide)]
      exact hK _ ⟨es0, j0 + 1, hes0, hel0, by omega, rfl⟩
  rintro _ ⟨es, j, hes, hel, hj, rfl⟩
  refine xset_ev (jv_list (ev_var (i := 2) rfl)) ?_
  let m1 : M := ⟨[sc, some (.c 0), some (.d (trD es)), some (.d (trD es)), none, none, none, none, none, none, none, none, none, none, none], [Bx ds j]⟩
  show (xSeq _ _) _ _ m1 _
  have tl : Tv (dTest (dOp RT.rGt (dBi bLen (dCons (dVar 2) dNil)) (dC (.int 20)))) m1 (decide (20 < es.length)) := by
    have h1 := jv_len (xs := es.map elD) (ev_var (m := m1) (i := 2) rfl)
    rw [List.length_map] at h1
    exact tv_test (ev_gtn (j := 20) h1 (ev_c _))
  by_cases hbig : 20 < es.length
  · rw [decide_eq_true hbig] at tl
    refine xthen m1 tl ?_
    exact xret_call (m := m1) (vs := [.d (trD es)]) (ja1 (ev_var (i := 3) rfl)) (lrefused_ok hbig fun st' os' => rfl)
  rw [decide_eq_false hbig] at tl
  refine xguard m1 tl ?_
  have hini : RowsZ es [] := fun t ht => by
    rw [List.mem_singleton.mp ht]
    exact ⟨by omega, hel⟩
  dsimp only [xGrpP, xMake, xA, xE]
  refine (ja1 (ev_var (m := m1) (i := 3) (d := trD es) rfl)) _ ?_
  refine binit_ok (by omega) ⟨rfl, ?_⟩
  let st0 : List Cell := [Bx ds j, .dead, .lst []]
  let os0 : RT.OS := setO [] 1 (benchO es 2)
  refine (ev_lst1 (m := ⟨m1.sl, st0⟩) (jv_list (ev_var (i := 2) (d := trD es) rfl))) _ ?_
  let Z : Option Vl → Option Vl → Option Vl → Option Vl → Option Vl → Option Vl → Option Vl → Option Vl → Option Vl → List (Option Vl) := fun x5 x6 x7 x8 x9 x10 x11 x12 x13 => [sc, some (.c 0), some (.d (trD es)), some (.d (trD es)), some (.c 3), x5, x6, x7, x8, x9, x10, x11, x12, x13, none]
  show gSeqO (gForO _ _ _) _ _ _ 3 (prsB es [⟨1, 2, []⟩]) ⟨Z none none none none none none none none none, [Bx ds j, .dead, .lst [], .dead]⟩ os0
  refine ⟨⟨by decide, by decide⟩, ?_⟩
  show gLoopO (.nm 5) _ (rangeD 0 14) none _ _ _ (rangeD 0 14) _ _ _
  rw [show rangeD 0 14 = (List.range' 0 14).map fun i : Nat => Dt.int (i : Int) from rangeD_map 14 0]
  refine geach_inv (fun i : Nat => Dt.int (i : Int)) (fun r ps m os => ∃ (t : Nat) (bs : List Bt) (j : Nat) (x5 x6 x7 x8 x9 x10 x11 x12 x13 : Option Vl), r = List.range' t (14 - t) ∧ t ≤ 14 ∧ ps = prsB es bs ∧ m.sl = Z x5 x6 x7 x8 x9 x10 x11 x12 x13 ∧ m.st[0]? = some (Bx ds j) ∧ j ≤ 300 + 20 * t ∧ BsOk os m.st es t bs ∧ 0 < bs.length ∧ bs.length ≤ 3) ?_ ?_ _ _ _ _ ⟨0, [⟨1, 2, []⟩], j, none, none, none, none, none, none, none, none, none, rfl, by decide, rfl, rfl, rfl, by omega, ⟨fun b hb => ?_, List.pairwise_singleton _ _⟩, by decide, by decide⟩
  · rintro x r ps ⟨sl, st1⟩ os1 K hK ⟨t, bs, j1, x5, x6, x7, x8, x9, x10, x11, x12, x13, er, ht, rfl, hsl, hbx, hj1, hbs, hb0, hb3⟩
    dsimp only at hsl hbx hbs ⊢
    subst hsl
    have htn : t < 14 := by
      cases e : 14 - t with
      | zero =>
        rw [e] at er
        cases er
      | succ q => omega
    rw [show 14 - t = (14 - (t + 1)) + 1 by omega, List.range'_succ] at er
    injection er with ex er
    subst ex
    have hlt : 0 < st1.length := (List.getElem?_eq_some_iff.mp hbx).1
    let T : Option Vl := some (.d (.int (x : Int)))
    -- which one
    refine gseq_to (fun ps m os => ∃ n : Nat, n < bs.length ∧ ps = prsB es bs ∧ os1 = os ∧ m = ⟨Z T (some (.d (.int (n : Int)))) x7 x8 x9 x10 x11 x12 x13, st1.set 0 (Bx ds (j1 + 1))⟩) (fun K2 hK2 => ?_) ?_
    · dsimp only [gSetL, xE]
      refine (evC_var (m := ⟨Z T x6 x7 x8 x9 x10 x11 x12 x13, st1⟩) (i := 1) (k := 0) rfl) _ ?_
      refine ⟨rfl, ?_⟩
      rw [prsB_len]
      refine draw2_ok (k := 0) (i := j1) (ds := ds) hbx (by omega) (by omega) fun d d0 d1 => ?_
      obtain ⟨n, rfl⟩ : ∃ n : Nat, d = (n : Int) := ⟨d.toNat, by omega⟩
      exact hK2 _ _ _ ⟨n, by omega, rfl, rfl, rfl⟩
    rintro _ _ _ ⟨n, hn, rfl, rfl, rfl⟩
    obtain ⟨b, hbn⟩ : ∃ b, bs[n]? = some b := ⟨_, List.getElem?_eq_getElem hn⟩
    have hbm : b ∈ bs := List.mem_of_getElem? hbn
    obtain ⟨B, hbk, hbl, hrw, hlat⟩ := hbs.at_ b hbm
    refine gunp_ok (n := n) (k := b.k) (d := rowsD (es :: b.lat)) rfl rfl (prsB_get hbn) ?_
    have hbx1 : (st1.set 0 (Bx ds (j1 + 1)))[0]? = some (Bx ds (j1 + 1)) := by simp [hlt]
    have hbs1 := hbs.set0 (Bx ds (j1 + 1))
    let st2 := st1.set 0 (Bx ds (j1 + 1))
    have hlt2 : 0 < st2.length := by
      show 0 < (st1.set 0 _).length
      rw [List.length_set]
      exact hlt
    let Y : Option Vl → Option Vl → Option Vl → List (Option Vl) := fun x9 x10 x11 => Z T (some (.d (.int (n : Int)))) (some (.c b.k)) (some (.d (rowsD (es :: b.lat)))) x9 x10 x11 x12 x13
    show gSeqO _ _ _ _ 3 (prsB es bs) ⟨Y x9 x10 x11, st2⟩ os1
    have hcl := hrw.cur.1
    -- an operation, or a branch
    refine gseq_to (fun ps m os => ∃ (bs' : List Bt) (b' : Bt) (j' : Nat) (x9 x10 x11 : Option Vl), ps = prsB es bs' ∧ m.sl = Y x9 x10 x11 ∧ m.st[0]? = some (Bx ds j') ∧ j' ≤ 300 + 20 * x + 15 ∧ BsOk os m.st es (x + 1) bs' ∧ b' ∈ bs' ∧ b'.k = b.k ∧ bs'.length ≤ 3) (fun K2 hK2 => ?_) ?_
    · have els : ∀ (Ex2 : EXO) (rt2 : Vl → M → RT.OS → Prop) (st3 : List Cell) (j3 : Nat), st3[0]? = some (Bx ds j3) → j3 ≤ 300 + 20 * x + 3 → BsOk os1 st3 es x bs →
          (gSeqO (gJ (xS fun _ => (dSet 9 (dCall PG.sp__law_operation [] (dCons (dVar 1) (dCons (dBi bLen (dCons (dOp RT.rIx (dVar 8) (rU rNeg (dC (.int 1)))) dNil)) dNil))))))
          (gSeqO (gJ (xS fun _ => (dAsgL (dCall PG.sp__law_done [] (dCons (dVar 8) (dCons (dVar 9) dNil))) [10, 11])))
          (gSeqO (gJ (xIf (xNot (xTru (xCall (spUp PG.sp__law_same) (xCons (xCall PG.sp__law_tried (xA fun _ => (dCons (dVar 7) (dCons (dVar 9) dNil)))) (xCons (xE fun _ => (dVar 10)) xNil)))))
          (xS fun _ => (dRet (dC (.bl false))))
          xNext))
          (gPut 4 6 (xE fun _ => (dVar 11)))))) Ex2 ⟨K2, rt2⟩ 3 (prsB es bs) ⟨Y x9 x10 x11, st3⟩ os1 := fun Ex2 rt2 st3 j3 hb3x hj3 hbs3 => by
        have hlt3 : 0 < st3.length := (List.getElem?_eq_some_iff.mp hb3x).1
        refine gseq_to (fun ps m os => ∃ (o : Om) (j4 : Nat), OmOk o ∧ j4 ≤ j3 + 10 ∧ ps = prsB es bs ∧ os1 = os ∧ m = ⟨Y (some (.d (omD o))) x10 x11, st3.set 0 (Bx ds j4)⟩) (fun K3 hK3 => ?_) ?_
        · have n8 : Ev (dBi bLen (dCons (dOp RT.rIx (dVar 8) (rU rNeg (dC (.int 1)))) dNil)) ⟨Y x9 x10 x11, st3⟩ (.int ((curB es b.lat).length : Nat)) := by
            have := jv_len (xs := (curB es b.lat).map elD) (ev_ix (z := trD (curB es b.lat)) (xs := (es :: b.lat).map trD) (i := -1) (m := ⟨Y x9 x10 x11, st3⟩) (a := dVar 8) (ev_var rfl) (jv_neg (ev_c (.int 1))) rows_last)
            rw [List.length_map] at this
            exact this
          show dSet 9 _ _ ⟨Y x9 x10 x11, st3⟩
          refine dset_cb (k := 0) rfl n8 ?_
          exact lop_ok (k := 0) (i := j3) (ds := ds) (by omega) hb3x (by omega) fun o j4 ho hj4 => hK3 _ _ _ ⟨o, j4, ho, hj4, rfl, rfl, rfl⟩
        rintro _ _ _ ⟨o, j4, ho, hj4, rfl, rfl, rfl⟩
        have hd : Ev (dCall PG.sp__law_done [] (dCons (dVar 8) (dCons (dVar 9) dNil))) ⟨Y (some (.d (omD o))) x10 x11, st3.set 0 (Bx ds j4)⟩ (dueD (X.stepB es b.lat o).1 (es :: (X.stepB es b.lat o).2)) :=
          ev_call2 (x := rowsD (es :: b.lat)) (y := omD o) (fun Q hQ => ldone_ok hcl (by omega) hQ) (ev_var rfl) (ev_var rfl)
        refine gasgL2 hd ?_
        let m4 : M := ⟨Y (some (.d (omD o))) (some (.d (resD (X.stepB es b.lat o).1))) (some (.d (rowsD (es :: (X.stepB es b.lat o).2)))), st3.set 0 (Bx ds j4)⟩
        show gSeqO _ _ _ _ 3 (prsB es bs) m4 os1
        have hz := step_resZ hrw ho
        have hbs4 := hbs3.set0 (Bx ds j4)
        have hb4 : m4.st[0]? = some (Bx ds j4) := by
          show (st3.set 0 (Bx ds j4))[0]? = _
          simp [hlt3]
        obtain ⟨B4, _, hbl4, _, _⟩ := hbs4.at_ b hbm
        refine gseq_to (fun ps m os => ∃ st5, ps = prsB es bs ∧ os1 = os ∧ m = ⟨m4.sl, st5⟩ ∧ StUp m4.st st5 b.kl b.kl ∧ st5[b.kl]? = some (.lst ((X.stepB es b.lat o).2.map trD))) (fun K3 hK3 => ?_) ?_
        · dsimp only [gJ, xIf, xNot, xTru, xCall, xCons, xA, xNil, xE, xNext]
          refine ja_cv (m := m4) (b := 7) (c := 9) (k := b.k) (d := omD o) rfl rfl _ ?_
          refine ltried_ok B4 ho hcl (by omega) fun st5 su hs => ?_
          refine (ev_var (m := ⟨m4.sl, st5⟩) (i := 10) (d := resD (X.stepB es b.lat o).1) rfl) _ ?_
          refine same_ok (sh_resZ hz) ?_
          show (if (!true) = true then _ else _ : Prop)
          rw [if_neg (by decide)]
          exact hK3 _ _ _ ⟨st5, rfl, rfl, rfl, su, hs⟩
        rintro _ _ _ ⟨st5, rfl, rfl, rfl, su, hs⟩
        dsimp only [gPut, xE]
        refine (ev_var (m := ⟨m4.sl, st5⟩) (i := 11) (d := rowsD (es :: (X.stepB es b.lat o).2)) rfl) _ ?_
        refine ⟨rfl, n, b.k, rowsD (es :: b.lat), rfl, prsB_get hbn, ?_⟩
        have hst := @step_len es b.lat o
        refine hK2 _ _ _ ⟨bs.set n ⟨b.k, b.kl, (X.stepB es b.lat o).2⟩, ⟨b.k, b.kl, (X.stepB es b.lat o).2⟩, j4, some (.d (omD o)), some (.d (resD (X.stepB es b.lat o).1)), some (.d (rowsD (es :: (X.stepB es b.lat o).2))), prsB_set _ _, rfl, ?_, by omega, hbs4.step hbn su hs (step_rowsZ hrw ho) (by omega), List.mem_of_getElem? (i := n) (by rw [List.getElem?_set, if_pos rfl, if_pos hn]), rfl, by rw [List.length_set]; exact hb3⟩
        show st5[0]? = some (Bx ds j4)
        rw [su.same 0 (by show 0 < (st3.set 0 _).length; rw [List.length_set]; exact hlt3) (by omega) (by omega)]
        exact hb4
      dsimp only [gIfO, xAnd, xT]
      refine draw2_ok (k := 0) (i := j1 + 1) (ds := ds) hbx1 (by decide) (by omega) fun d d0 d1 => ?_
      have hbx2 : (st2.set 0 (Bx ds (j1 + 2)))[0]? = some (Bx ds (j1 + 2)) := by simp [hlt2]
      have hbs2 : BsOk os1 (st2.set 0 (Bx ds (j1 + 2))) es x bs := hbs1.set0 (Bx ds (j1 + 2))
      by_cases e0 : d = 0
      · refine ⟨rfl, rfl, ?_⟩
        show (if eqD (.int d) (.int 0) = true then _ else _ : Prop)
        rw [eqD_int, decide_eq_true e0, if_pos rfl]
        refine ⟨rfl, ?_⟩
        rw [prsB_len]
        by_cases h3 : bs.length < 3
        · rw [decide_eq_true (by omega)]
          show (if true = true then _ else _ : Prop)
          rw [if_pos rfl]
          refine ⟨rfl, ?_⟩
          obtain ⟨B2, hbk2, hbl2, _, _⟩ := hbs2.at_ b hbm
          refine xmeth0 (t := fun _ => dVar 7) (c := "Bench") (mm := "branch") (k := b.k) (evC_var rfl) B2.o (lk_two (by decide +kernel) (by decide +kernel)) ?_
          refine bbranch_ok B2 hbk2 (by omega) (by omega) fun st' os' kl' ext ho hlen hkl B' => ?_
          dsimp only [xE]
          refine (ev_var (m := ⟨Y x9 x10 x11, st'⟩) (i := 8) (d := rowsD (es :: b.lat)) rfl) _ ?_
          refine ⟨small_lt (by rw [prsB_len]; omega), ?_⟩
          have hl0 : 0 < (st2.set 0 (Bx ds (j1 + 2))).length := by
            rw [List.length_set]
            exact hlt2
          refine hK2 _ _ _ ⟨bs ++ [⟨(st2.set 0 (Bx ds (j1 + 2))).length, kl', b.lat⟩], b, j1 + 2, x9, x10, x11, ?_, rfl, ?_, by omega, (hbs2.push (nb := ⟨(st2.set 0 (Bx ds (j1 + 2))).length, kl', b.lat⟩) ext ho B' hlen hkl hl0 hrw hlat).mono (Nat.le_succ _), List.mem_append_left _ hbm, rfl, by rw [List.length_append]; show _ + 1 ≤ _; omega⟩
          · unfold prsB
            rw [List.map_append]
            rfl
          · show st'[0]? = _
            rw [ext.same 0 hl0]
            exact hbx2
        · rw [decide_eq_false (by omega)]
          show (if false = true then _ else _ : Prop)
          rw [if_neg (by decide)]
          exact els _ _ _ (j1 + 2) hbx2 (by omega) hbs2
      · refine ⟨rfl, rfl, ?_⟩
        show (if eqD (.int d) (.int 0) = true then _ else _ : Prop)
        rw [eqD_int, decide_eq_false e0, if_neg (by decide)]
        show (if false = true then _ else _ : Prop)
        rw [if_neg (by decide)]
        exact els _ _ _ (j1 + 2) hbx2 (by omega) hbs2
    -- told lists are changed; all are right
    · rintro _ ⟨sl, st6⟩ os6 ⟨bs', b', j6, x9, x10, x11, rfl, hsl, hbx6, hj6, hbs6, hb6m, ebk, hl6⟩
      dsimp only at hsl hbx6 hbs6 ⊢
      subst hsl
      obtain ⟨B6, hk6, _, hrw6, hlat6⟩ := hbs6.at_ b' hb6m
      rw [ebk] at B6
      show gSeqO _ _ _ _ 3 (prsB es bs') ⟨Y x9 x10 x11, st6⟩ os6
      refine gapp_ok (k := b.k) (evC_var rfl) B6.o (lk_two (by decide +kernel) (by decide +kernel)) (fun QO Ex h => btrainO_ok B6 (by omega) (by have := hrw6.cur.1; omega) h) (fun st => ev_tup2 (ev_c (.str ("gap" : Str))) (ev_tup2 (ev_c (.int 5)) (ev_c (.int 1)))) fun st7 e7 => ?_
      have hbs7 := hbs6.ext e7 (fun _ _ => rfl)
      obtain ⟨B7, _, _, _, _⟩ := hbs7.at_ b' hb6m
      rw [ebk] at B7
      show gSeqO _ _ _ _ 3 (prsB es bs') ⟨Y x9 x10 x11, st7⟩ os6
      refine gapp_ok (k := b.k) (evC_var rfl) B7.o (lk_two (by decide +kernel) (by decide +kernel)) (fun QO Ex h => bhistO_ok B7 (by omega) h) (fun st => ev_lst0) fun st8 e8 => ?_
      have hbs8 := hbs7.ext e8 (fun _ _ => rfl)
      have hbx8 : st8[0]? = some (Bx ds j6) := by
        have h6 := (List.getElem?_eq_some_iff.mp hbx6).1
        have e7' : StExt st6 st7 := e7
        have e8' : StExt st7 st8 := e8
        rw [e8'.same 0 (Nat.lt_of_lt_of_le h6 e7'.len), e7'.same 0 h6]
        exact hbx6
      refine ⟨rfl, ?_⟩
      refine gloopP_inv (fun m os => ∃ y12 y13, os6 = os ∧ m = ⟨Z T (some (.d (.int (n : Int)))) (some (.c b.k)) (some (.d (rowsD (es :: b.lat)))) x9 x10 x11 y12 y13, st8⟩) ?_ ?_ _ _ _ (fun p hp => hp) ⟨x12, x13, rfl, rfl⟩
      · rintro k d _ _ K3 hK3 hmem ⟨y12, y13, rfl, rfl⟩
        obtain ⟨c, hc, e⟩ := List.mem_map.mp hmem
        cases e
        obtain ⟨B8, _, _, hr8, hl8⟩ := hbs8.at_ c hc
        let m8 : M := ⟨Z T (some (.d (.int (n : Int)))) (some (.c b.k)) (some (.d (rowsD (es :: b.lat)))) x9 x10 x11 (some (.c c.k)) (some (.d (rowsD (es :: c.lat)))), st8⟩
        show (xIf _ _ _) _ _ m8 os6
        dsimp only [xIf, xNot, xTru, xCall, xA, xNext]
        refine ja_cv (m := m8) (b := 12) (c := 13) (k := c.k) (d := rowsD (es :: c.lat)) rfl rfl _ ?_
        refine lright_ok B8 hr8 (by omega) ?_
        show (if (!true) = true then _ else _ : Prop)
        rw [if_neg (by decide)]
        exact hK3 _ _ ⟨_, _, rfl, rfl⟩
      · rintro _ _ ⟨y12, y13, rfl, rfl⟩
        exact hK _ _ _ ⟨x + 1, bs', j6, T, some (.d (.int (n : Int))), some (.c b.k), some (.d (rowsD (es :: b.lat))), x9, x10, x11, y12, y13, er, by omega, rfl, rfl, hbx8, by omega, hbs8, List.length_pos_of_mem hb6m, hl6⟩
  · rintro ps m os _
    exact rfl
  · rw [List.mem_singleton.mp hb]
    exact ⟨⟨lk_set _, rfl⟩, by show 1 < 4; decide, by show 0 < 2; decide, hini, Nat.le_refl _⟩
end PG

set_option maxRecDepth 100000
set_option maxHeartbeats 4000000
namespace K56
open PySem PySem.Spec PyProof.Rows L2 RT

def top (i : Nat) : Stmt := PySem.Challenge.pw_raytrain_k56_benches.main.body.getD i (.Pass ⟨0, 0, 0, 0⟩)
abbrev s_Bench___init__ : Stmt := inClass (top 7) 0
abbrev s_Bench_train : Stmt := inClass (top 7) 1
abbrev s_Bench_train_own : Stmt := inClass (top 7) 1
abbrev s_Bench_operations : Stmt := inClass (top 7) 2
abbrev s_Bench_put : Stmt := inClass (top 7) 3
abbrev s_Bench_take : Stmt := inClass (top 7) 4
abbrev s_Bench_exchange : Stmt := inClass (top 7) 5
abbrev s_Bench_undo : Stmt := inClass (top 7) 6
abbrev s_Bench_history : Stmt := inClass (top 7) 7
abbrev s_Bench_history_own : Stmt := inClass (top 7) 7
abbrev s_Bench_branch : Stmt := inClass (top 7) 8
abbrev s__law_cell : Stmt := top 9
abbrev s__law_row : Stmt := top 10
abbrev s__law_box : Stmt := top 11
abbrev s__law_draw : Stmt := top 12
abbrev s__law_frac : Stmt := top 13
abbrev s__law_add : Stmt := top 14
abbrev s__law_fraction : Stmt := top 15
abbrev s__law_nonzero : Stmt := top 16
abbrev s__law_stop : Stmt := top 17
abbrev s__law_element : Stmt := top 18
abbrev s__law_train : Stmt := top 19
abbrev s__law_same : Stmt := top 20
abbrev s__law_tried : Stmt := top 21
abbrev s__law_done : Stmt := top 22
abbrev s__law_operation : Stmt := top 23
abbrev s__law_right : Stmt := top 24
abbrev s__law_refused : Stmt := top 25
abbrev s_law : Stmt := top 26
def dd_Bench___init__ : He.DefD := ⟨("Bench", some "__init__"), "__init__", "Bench.__init__", defArgs s_Bench___init__, defBody s_Bench___init__, defScope s_Bench___init__, [], []⟩
def dd_Bench_train : He.DefD := ⟨("Bench", some "train"), "train", "Bench.train", defArgs s_Bench_train, defBody s_Bench_train, defScope s_Bench_train, [], []⟩
def dd_Bench_train_own : He.DefD := ⟨("Bench", some "train"), "train", "Bench.train", defArgs s_Bench_train_own, defBody s_Bench_train_own, defScope s_Bench_train_own, [], []⟩
def dd_Bench_operations : He.DefD := ⟨("Bench", some "operations"), "operations", "Bench.operations", defArgs s_Bench_operations, defBody s_Bench_operations, defScope s_Bench_operations, [], []⟩
def dd_Bench_put : He.DefD := ⟨("Bench", some "put"), "put", "Bench.put", defArgs s_Bench_put, defBody s_Bench_put, defScope s_Bench_put, [], []⟩
def dd_Bench_take : He.DefD := ⟨("Bench", some "take"), "take", "Bench.take", defArgs s_Bench_take, defBody s_Bench_take, defScope s_Bench_take, [], []⟩
def dd_Bench_exchange : He.DefD := ⟨("Bench", some "exchange"), "exchange", "Bench.exchange", defArgs s_Bench_exchange, defBody s_Bench_exchange, defScope s_Bench_exchange, [], []⟩
def dd_Bench_undo : He.DefD := ⟨("Bench", some "undo"), "undo", "Bench.undo", defArgs s_Bench_undo, defBody s_Bench_undo, defScope s_Bench_undo, [], []⟩
def dd_Bench_history : He.DefD := ⟨("Bench", some "history"), "history", "Bench.history", defArgs s_Bench_history, defBody s_Bench_history, defScope s_Bench_history, [], []⟩
def dd_Bench_history_own : He.DefD := ⟨("Bench", some "history"), "history", "Bench.history", defArgs s_Bench_history_own, defBody s_Bench_history_own, defScope s_Bench_history_own, [], []⟩
def dd_Bench_branch : He.DefD := ⟨("Bench", some "branch"), "branch", "Bench.branch", defArgs s_Bench_branch, defBody s_Bench_branch, defScope s_Bench_branch, [], []⟩
def dd__law_cell : He.DefD := ⟨("_law_cell", none), "_law_cell", "_law_cell", defArgs s__law_cell, defBody s__law_cell, defScope s__law_cell, [], []⟩
def dd__law_row : He.DefD := ⟨("_law_row", none), "_law_row", "_law_row", defArgs s__law_row, defBody s__law_row, defScope s__law_row, [], []⟩
def dd__law_box : He.DefD := ⟨("_law_box", none), "_law_box", "_law_box", defArgs s__law_box, defBody s__law_box, defScope s__law_box, [], []⟩
def dd__law_draw : He.DefD := ⟨("_law_draw", none), "_law_draw", "_law_draw", defArgs s__law_draw, defBody s__law_draw, defScope s__law_draw, [], []⟩
def dd__law_frac : He.DefD := ⟨("_law_frac", none), "_law_frac", "_law_frac", defArgs s__law_frac, defBody s__law_frac, defScope s__law_frac, [], []⟩
def dd__law_add : He.DefD := ⟨("_law_add", none), "_law_add", "_law_add", defArgs s__law_add, defBody s__law_add, defScope s__law_add, [], []⟩
def dd__law_fraction : He.DefD := ⟨("_law_fraction", none), "_law_fraction", "_law_fraction", defArgs s__law_fraction, defBody s__law_fraction, defScope s__law_fraction, [], []⟩
def dd__law_nonzero : He.DefD := ⟨("_law_nonzero", none), "_law_nonzero", "_law_nonzero", defArgs s__law_nonzero, defBody s__law_nonzero, defScope s__law_nonzero, [], []⟩
def dd__law_stop : He.DefD := ⟨("_law_stop", none), "_law_stop", "_law_stop", defArgs s__law_stop, defBody s__law_stop, defScope s__law_stop, [], []⟩
def dd__law_element : He.DefD := ⟨("_law_element", none), "_law_element", "_law_element", defArgs s__law_element, defBody s__law_element, defScope s__law_element, [], []⟩
def dd__law_train : He.DefD := ⟨("_law_train", none), "_law_train", "_law_train", defArgs s__law_train, defBody s__law_train, defScope s__law_train, [], []⟩
def dd__law_same : He.DefD := ⟨("_law_same", none), "_law_same", "_law_same", defArgs s__law_same, defBody s__law_same, defScope s__law_same, [], []⟩
def dd__law_tried : He.DefD := ⟨("_law_tried", none), "_law_tried", "_law_tried", defArgs s__law_tried, defBody s__law_tried, defScope s__law_tried, [], []⟩
def dd__law_done : He.DefD := ⟨("_law_done", none), "_law_done", "_law_done", defArgs s__law_done, defBody s__law_done, defScope s__law_done, [], []⟩
def dd__law_operation : He.DefD := ⟨("_law_operation", none), "_law_operation", "_law_operation", defArgs s__law_operation, defBody s__law_operation, defScope s__law_operation, [], []⟩
def dd__law_right : He.DefD := ⟨("_law_right", none), "_law_right", "_law_right", defArgs s__law_right, defBody s__law_right, defScope s__law_right, [], []⟩
def dd__law_refused : He.DefD := ⟨("_law_refused", none), "_law_refused", "_law_refused", defArgs s__law_refused, defBody s__law_refused, defScope s__law_refused, [], []⟩
def dd_law : He.DefD := ⟨("law", none), "law", "law", defArgs s_law, defBody s_law, defScope s_law, [], []⟩
def file : Str := "/claim/cut.py"
abbrev s_i_NoSuchPosition : Stmt := inClass (top 3) 0
def dE_NoSuchPosition : ErD := ⟨"NoSuchPosition", "index", "NoSuchPosition.__init__", defArgs s_i_NoSuchPosition, defBody s_i_NoSuchPosition, defScope s_i_NoSuchPosition⟩
abbrev s_i_NoSuchElement : Stmt := inClass (top 2) 0
def dE_NoSuchElement : ErD := ⟨"NoSuchElement", "index", "NoSuchElement.__init__", defArgs s_i_NoSuchElement, defBody s_i_NoSuchElement, defScope s_i_NoSuchElement⟩
def el : List ErD := [dE_NoSuchPosition, dE_NoSuchElement]
def fn : List He.DefD := [dd_Bench___init__, dd_Bench_train, dd_Bench_train_own, dd_Bench_operations, dd_Bench_put, dd_Bench_take, dd_Bench_exchange, dd_Bench_undo, dd_Bench_history, dd_Bench_history_own, dd_Bench_branch, dd__law_cell, dd__law_row, dd__law_box, dd__law_draw, dd__law_frac, dd__law_add, dd__law_fraction, dd__law_nonzero, dd__law_stop, dd__law_element, dd__law_train, dd__law_same, dd__law_tried, dd__law_done, dd__law_operation, dd__law_right, dd__law_refused, dd_law]
def ml : List (Str × Str) := [("Bench", "__init__"), ("Bench", "train"), ("Bench", "train"), ("Bench", "operations"), ("Bench", "put"), ("Bench", "take"), ("Bench", "exchange"), ("Bench", "undo"), ("Bench", "history"), ("Bench", "history"), ("Bench", "branch"), ("NoSuchPosition", "__init__"), ("NoSuchElement", "__init__")]
def fa : List He.Fa := [.glo "Bench", .glo "Bench", .glo "Bench", .glo "Bench", .glo "Bench", .glo "Bench", .glo "Bench", .glo "Bench", .glo "Bench", .glo "Bench", .glo "Bench", .glo "_law_cell", .glo "_law_row", .glo "_law_box", .glo "_law_draw", .glo "_law_frac", .glo "_law_add", .glo "_law_fraction", .glo "_law_nonzero", .glo "_law_stop", .glo "_law_element", .glo "_law_train", .glo "_law_same", .glo "_law_tried", .glo "_law_done", .glo "_law_operation", .glo "_law_right", .glo "_law_refused", .glo "law", .free "len", .free "list", .free "range", .free "int", .free "abs", .free "repr", .free "super", .glo "Bench", .cls "Bench", .mkr "Bench", .noat "Bench" "initial", .noat "Bench" "later", .meth "Bench" "train", .meth "Bench" "operations", .meth "Bench" "put", .meth "Bench" "take", .meth "Bench" "exchange", .meth "Bench" "undo", .meth "Bench" "history", .meth "Bench" "branch"]
def xb (K : PySem.W.Frag) : Bool := cstB K "MOST" PG.v_MOST && (exmB K "NoSuchPosition" "NoSuchPosition" && (exuB K "NoSuchPosition" && (exnB K "TrainFull" "NoSuchPosition" && (exnB K "TrainFull" "NoSuchElement" && (exmB K "TrainFull" "TrainFull" && (exnB K "NoSuchElement" "NoSuchPosition" && (exmB K "NoSuchElement" "NoSuchElement" && (exuB K "NoSuchElement" && (excB K "TrainFull" && (einB K file dE_NoSuchPosition && (einB K file dE_NoSuchElement)))))))))))
section
variable {P : Program} {w : World} {K : PySem.W.Frag} {mg : Str → Option Value} {base : Heap}
theorem e_exmB_NoSuchPosition_NoSuchPosition (KX : K.In base) (GX : base.Ns mainGlobals mg) (hxb : xb K = true) : ExmG K mg "NoSuchPosition" "NoSuchPosition" := exmG_of KX GX ((band (band hxb).2).1)
theorem e_exuB_NoSuchPosition (hxb : xb K = true) : ExcU K "NoSuchPosition" := exu_of ((band (band (band hxb).2).2).1)
theorem e_exnB_TrainFull_NoSuchPosition (KX : K.In base) (GX : base.Ns mainGlobals mg) (hxb : xb K = true) : ExnG K mg "TrainFull" "NoSuchPosition" := exnG_of KX GX ((band (band (band (band hxb).2).2).2).1)
theorem e_exnB_TrainFull_NoSuchElement (KX : K.In base) (GX : base.Ns mainGlobals mg) (hxb : xb K = true) : ExnG K mg "TrainFull" "NoSuchElement" := exnG_of KX GX ((band (band (band (band (band hxb).2).2).2).2).1)
theorem e_exmB_TrainFull_TrainFull (KX : K.In base) (GX : base.Ns mainGlobals mg) (hxb : xb K = true) : ExmG K mg "TrainFull" "TrainFull" := exmG_of KX GX ((band (band (band (band (band (band hxb).2).2).2).2).2).1)
theorem e_exnB_NoSuchElement_NoSuchPosition (KX : K.In base) (GX : base.Ns mainGlobals mg) (hxb : xb K = true) : ExnG K mg "NoSuchElement" "NoSuchPosition" := exnG_of KX GX ((band (band (band (band (band (band (band hxb).2).2).2).2).2).2).1)
theorem e_exmB_NoSuchElement_NoSuchElement (KX : K.In base) (GX : base.Ns mainGlobals mg) (hxb : xb K = true) : ExmG K mg "NoSuchElement" "NoSuchElement" := exmG_of KX GX ((band (band (band (band (band (band (band (band hxb).2).2).2).2).2).2).2).1)
theorem e_exuB_NoSuchElement (hxb : xb K = true) : ExcU K "NoSuchElement" := exu_of ((band (band (band (band (band (band (band (band (band hxb).2).2).2).2).2).2).2).2).1)
theorem e_excB_TrainFull (KX : K.In base) (GX : base.Ns mainGlobals mg) (hxb : xb K = true) : ExcG K mg "TrainFull" := excG_of KX GX ((band (band (band (band (band (band (band (band (band (band hxb).2).2).2).2).2).2).2).2).2).1)
theorem e_einB_NoSuchPosition (KX : K.In base) (GX : base.Ns mainGlobals mg) (c : He.SaysD fa fn K) (hxb : xb K = true) (hpr : PrgOk P file) (hml : el.map (fun d => mtW K d.x) = el.map ErD.val) : ErrI P w K mg base "NoSuchPosition" 1 := errI_of (d := dE_NoSuchPosition) (arg := "index") KX GX hpr ((band (band (band (band (band (band (band (band (band (band (band hxb).2).2).2).2).2).2).2).2).2).2).1) (el_at hml 0) (He.free_ok KX GX (c.fact 35 (f := .free "super") rfl)) rfl rfl (NdefX.nscope_by (by decide +kernel)) rfl rfl rfl rfl (fun env => ⟨_, rfl⟩) (fun _ _ _ _ _ _ us hl => match us, hl with | [_, _], _ => rfl) (ha2 rfl rfl (by decide))
theorem e_einB_NoSuchElement (KX : K.In base) (GX : base.Ns mainGlobals mg) (c : He.SaysD fa fn K) (hxb : xb K = true) (hpr : PrgOk P file) (hml : el.map (fun d => mtW K d.x) = el.map ErD.val) : ErrI P w K mg base "NoSuchElement" 1 := errI_of (d := dE_NoSuchElement) (arg := "index") KX GX hpr ((band (band (band (band (band (band (band (band (band (band (band hxb).2).2).2).2).2).2).2).2).2).2).2) (el_at hml 1) (He.free_ok KX GX (c.fact 35 (f := .free "super") rfl)) rfl rfl (NdefX.nscope_by (by decide +kernel)) rfl rfl rfl rfl (fun env => ⟨_, rfl⟩) (fun _ _ _ _ _ _ us hl => match us, hl with | [_, _], _ => rfl) (ha2 rfl rfl (by decide))
theorem cst_MOST (KX : K.In base) (GX : base.Ns mainGlobals mg) (c : He.SaysD fa fn K) (hxb : xb K = true) : CstG K mg "MOST" PG.v_MOST := cst_of KX GX ((band hxb).1)
theorem sc_Bench___init__ : FnScope (["self", "train"] : List Str) (["self", "train"] : List Str) (defScope s_Bench___init__) := ⟨rfl, rfl, rfl, by decide +kernel, rfl, by decide +kernel, by decide +kernel⟩
theorem d_Bench___init__ {X : Cx} {Wx : WX} (tk : Takes X Wx) (am : Amb 2 X) (hN : X.N.Nodup) (hc : X.calm = true) (hxe : PassesOwn (model X.prog X.w) X.A X.env X.xe) (eN : X.N = (["self", "train"] : List Str)) (eS : X.env.scope = defScope s_Bench___init__) (hfn : ∀ x, X.fn x = true) (hsk : X.stack = X.env :: X.outer) (hfl : X.env.frame = some X.env.locals) (fr_len : X.mg "len" = none) (fr_list : X.mg "list" = none) (C_MOST : CstG X.K X.mg "MOST" PG.v_MOST) (CO_Bench : ClsO X.K "Bench") (NO_Bench_initial : NoaO X.K "Bench" "initial") (NO_Bench_later : NoaO X.K "Bench" "later") (E_excB_TrainFull : ExcG X.K X.mg "TrainFull") : JSOs X Wx (defBody s_Bench___init__) PG.w_Bench___init__ := by
  have hr := am.rm
  have n0 : X.N[0]? = some ("self" : Str) := by rw [eN]; rfl
  have v0 : SlotOk X 0 "self" := slot_of eS eN hfn rfl (.inl rfl)
  have n1 : X.N[1]? = some ("train" : Str) := by rw [eN]; rfl
  have v1 : SlotOk X 1 "train" := slot_of eS eN hfn rfl (.inl rfl)
  have gl_len : Gl X "len" := gl_of eS rfl
  have gl_MOST : Gl X "MOST" := gl_of eS rfl
  have gl_TrainFull : Gl X "TrainFull" := gl_of eS rfl
  have gl_list : Gl X "list" := gl_of eS rfl
  exact (so_cons (so_if (to_of (fun os => by letI : Ghost := gho X.K os; exact (jt_cmp o_gt (je_bi b_len gl_len fr_len RT.boot_len (ja_cons (je_v v1) ja_nil)) (je_glob ⟨gl_MOST, C_MOST, by decide⟩) (nomark _))))
  (so_one (so_raise0 E_excB_TrainFull rfl hc tk gl_TrainFull))
  so_nil)
  (so_cons (so_fld CO_Bench NO_Bench_initial v0.hN v0.vis (eo_of (fun os => by letI : Ghost := gho X.K os; exact (je_bty b_list gl_list fr_list RT.boot_list (ja_cons (je_v v1) ja_nil)))))
  (so_one (so_fld CO_Bench NO_Bench_later v0.hN v0.vis (eo_of (fun os => by letI : Ghost := gho X.K os; exact (je_lstO ja_nil)))))))
theorem o_Bench___init__ (KX : K.In base) (GX : base.Ns mainGlobals mg) (c : He.SaysD fa fn K) (hxb : xb K = true) (hns : BaseOk K mg base) (htr : P.given.tree = none) (hpr : PrgOk P file) (hml : el.map (fun d => mtW K d.x) = el.map ErD.val) : MkO P w K mg base "Bench" 3 PG.sp_Bench___init__ := by
  obtain ⟨fd, F⟩ := c.def_ 0 (d := dd_Bench___init__) rfl
  unfold PG.sp_Bench___init__
  exact mkO_of KX GX (c.fact 36 (f := .glo "Bench") rfl) (c.fact 38 (f := .mkr "Bench") rfl) (fnO_of (N := (["self", "train"] : List Str)) hns htr F sc_Bench___init__ rfl rfl (by decide) (fun X Wx cdv A outer s H E hX tk hcd am => by subst hX; exact d_Bench___init__ tk am sc_Bench___init__.nd rfl (passes_of rfl) rfl rfl (fun _ => rfl) rfl rfl (He.free_ok KX GX (c.fact 29 (f := .free "len") rfl)) (He.free_ok KX GX (c.fact 30 (f := .free "list") rfl)) (cst_MOST KX GX c hxb) (clsO_of (c.fact 36 (f := .glo "Bench") rfl) (c.fact 37 (f := .cls "Bench") rfl)) (noaO_of (c.fact 36 (f := .glo "Bench") rfl) (c.fact 39 (f := .noat "Bench" "initial") rfl)) (noaO_of (c.fact 36 (f := .glo "Bench") rfl) (c.fact 40 (f := .noat "Bench" "later") rfl)) (e_excB_TrainFull KX GX hxb))) (F.bindsN (fun _ _ _ _ _ _ us hl => match us, hl with | [_, _], _ => rfl))

theorem sc_Bench_train : FnScope (["self"] : List Str) (["self"] : List Str) (defScope s_Bench_train) := ⟨rfl, rfl, rfl, by decide +kernel, rfl, by decide +kernel, by decide +kernel⟩
theorem d_Bench_train {X : Cx} {Wx : WX} (tk : Takes X Wx) (am : Amb 0 X) (hN : X.N.Nodup) (hc : X.calm = true) (hxe : PassesOwn (model X.prog X.w) X.A X.env X.xe) (eN : X.N = (["self"] : List Str)) (eS : X.env.scope = defScope s_Bench_train) (hfn : ∀ x, X.fn x = true) (hsk : X.stack = X.env :: X.outer) (hfl : X.env.frame = some X.env.locals) (fr_list : X.mg "list" = none) (CO_Bench : ClsO X.K "Bench") (NO_Bench_later : NoaO X.K "Bench" "later") (NO_Bench_initial : NoaO X.K "Bench" "initial") : JSOs X Wx (defBody s_Bench_train) PG.w_Bench_train := by
  have hr := am.rm
  have n0 : X.N[0]? = some ("self" : Str) := by rw [eN]; rfl
  have v0 : SlotOk X 0 "self" := slot_of eS eN hfn rfl (.inl rfl)
  have gl_list : Gl X "list" := gl_of eS rfl
  exact (so_cons (so_of (fun os => by letI : Ghost := gho X.K os; exact (js_if (jt_tru (je_fld CO_Bench NO_Bench_later (je_v v0)))
  (js_one (js_ret (je_bty b_list gl_list fr_list RT.boot_list (ja_cons (je_ix (je_fld CO_Bench NO_Bench_later (je_v v0)) (je_neg je_int)) ja_nil))))
  js_nil)))
  (so_one (so_of (fun os => by letI : Ghost := gho X.K os; exact (js_ret (je_bty b_list gl_list fr_list RT.boot_list (ja_cons (je_fld CO_Bench NO_Bench_initial (je_v v0)) ja_nil)))))))
theorem o_Bench_train (KX : K.In base) (GX : base.Ns mainGlobals mg) (c : He.SaysD fa fn K) (hxb : xb K = true) (hns : BaseOk K mg base) (htr : P.given.tree = none) (hpr : PrgOk P file) (hml : el.map (fun d => mtW K d.x) = el.map ErD.val) : MthO P w K mg base "Bench" "train" 1 PG.sp_Bench_train := by
  obtain ⟨fd, F⟩ := c.def_ 1 (d := dd_Bench_train) rfl
  unfold PG.sp_Bench_train
  exact mthO_of (c.fact 36 (f := .glo "Bench") rfl) (c.fact 37 (f := .cls "Bench") rfl) (c.fact 41 (f := .meth "Bench" "train") rfl) (fnO_of (N := (["self"] : List Str)) hns htr F sc_Bench_train rfl rfl (by decide) (fun X Wx cdv A outer s H E hX tk hcd am => by subst hX; exact d_Bench_train tk am sc_Bench_train.nd rfl (passes_of rfl) rfl rfl (fun _ => rfl) rfl rfl (He.free_ok KX GX (c.fact 30 (f := .free "list") rfl)) (clsO_of (c.fact 36 (f := .glo "Bench") rfl) (c.fact 37 (f := .cls "Bench") rfl)) (noaO_of (c.fact 36 (f := .glo "Bench") rfl) (c.fact 40 (f := .noat "Bench" "later") rfl)) (noaO_of (c.fact 36 (f := .glo "Bench") rfl) (c.fact 39 (f := .noat "Bench" "initial") rfl)))) (F.bindsN (fun _ _ _ _ _ _ us hl => match us, hl with | [_], _ => rfl))

theorem sc_Bench_train_own : FnScope (["self"] : List Str) (["self"] : List Str) (defScope s_Bench_train_own) := ⟨rfl, rfl, rfl, by decide +kernel, rfl, by decide +kernel, by decide +kernel⟩
theorem d_Bench_train_own {X : Cx} {Wx : WX} (tk : Takes X Wx) (am : Amb 0 X) (hN : X.N.Nodup) (hc : X.calm = true) (hxe : PassesOwn (model X.prog X.w) X.A X.env X.xe) (eN : X.N = (["self"] : List Str)) (eS : X.env.scope = defScope s_Bench_train_own) (hfn : ∀ x, X.fn x = true) (hsk : X.stack = X.env :: X.outer) (hfl : X.env.frame = some X.env.locals) (fr_list : X.mg "list" = none) (CO_Bench : ClsO X.K "Bench") (NO_Bench_later : NoaO X.K "Bench" "later") (NO_Bench_initial : NoaO X.K "Bench" "initial") : JSOs X Wx (defBody s_Bench_train_own) PG.w_Bench_train_own := by
  have hr := am.rm
  have n0 : X.N[0]? = some ("self" : Str) := by rw [eN]; rfl
  have v0 : SlotOk X 0 "self" := slot_of eS eN hfn rfl (.inl rfl)
  have gl_list : Gl X "list" := gl_of eS rfl
  exact (so_cons (so_if (to_of (fun os => by letI : Ghost := gho X.K os; exact (jt_tru (je_fld CO_Bench NO_Bench_later (je_v v0)))))
  (so_one (so_ret (eo_of (fun os => by letI : Ghost := gho X.K os; exact (je_listO gl_list fr_list RT.boot_list (ja_cons (je_ix (je_fld CO_Bench NO_Bench_later (je_v v0)) (je_neg je_int)) ja_nil))))))
  so_nil)
  (so_one (so_ret (eo_of (fun os => by letI : Ghost := gho X.K os; exact (je_listO gl_list fr_list RT.boot_list (ja_cons (je_fld CO_Bench NO_Bench_initial (je_v v0)) ja_nil)))))))
theorem o_Bench_train_own (KX : K.In base) (GX : base.Ns mainGlobals mg) (c : He.SaysD fa fn K) (hxb : xb K = true) (hns : BaseOk K mg base) (htr : P.given.tree = none) (hpr : PrgOk P file) (hml : el.map (fun d => mtW K d.x) = el.map ErD.val) : MthO P w K mg base "Bench" "train" 1 PG.sp_Bench_train_own := by
  obtain ⟨fd, F⟩ := c.def_ 2 (d := dd_Bench_train_own) rfl
  unfold PG.sp_Bench_train_own
  exact mthO_of (c.fact 36 (f := .glo "Bench") rfl) (c.fact 37 (f := .cls "Bench") rfl) (c.fact 41 (f := .meth "Bench" "train") rfl) (fnO_of (N := (["self"] : List Str)) hns htr F sc_Bench_train_own rfl rfl (by decide) (fun X Wx cdv A outer s H E hX tk hcd am => by subst hX; exact d_Bench_train_own tk am sc_Bench_train_own.nd rfl (passes_of rfl) rfl rfl (fun _ => rfl) rfl rfl (He.free_ok KX GX (c.fact 30 (f := .free "list") rfl)) (clsO_of (c.fact 36 (f := .glo "Bench") rfl) (c.fact 37 (f := .cls "Bench") rfl)) (noaO_of (c.fact 36 (f := .glo "Bench") rfl) (c.fact 40 (f := .noat "Bench" "later") rfl)) (noaO_of (c.fact 36 (f := .glo "Bench") rfl) (c.fact 39 (f := .noat "Bench" "initial") rfl)))) (F.bindsN (fun _ _ _ _ _ _ us hl => match us, hl with | [_], _ => rfl))

theorem sc_Bench_operations : FnScope (["self"] : List Str) (["self"] : List Str) (defScope s_Bench_operations) := ⟨rfl, rfl, rfl, by decide +kernel, rfl, by decide +kernel, by decide +kernel⟩
theorem d_Bench_operations {X : Cx} {Wx : WX} (tk : Takes X Wx) (am : Amb 0 X) (hN : X.N.Nodup) (hc : X.calm = true) (hxe : PassesOwn (model X.prog X.w) X.A X.env X.xe) (eN : X.N = (["self"] : List Str)) (eS : X.env.scope = defScope s_Bench_operations) (hfn : ∀ x, X.fn x = true) (hsk : X.stack = X.env :: X.outer) (hfl : X.env.frame = some X.env.locals) (fr_len : X.mg "len" = none) (CO_Bench : ClsO X.K "Bench") (NO_Bench_later : NoaO X.K "Bench" "later") : JSOs X Wx (defBody s_Bench_operations) PG.w_Bench_operations := by
  have hr := am.rm
  have n0 : X.N[0]? = some ("self" : Str) := by rw [eN]; rfl
  have v0 : SlotOk X 0 "self" := slot_of eS eN hfn rfl (.inl rfl)
  have gl_len : Gl X "len" := gl_of eS rfl
  exact (so_one (so_of (fun os => by letI : Ghost := gho X.K os; exact (js_ret (je_bi b_len gl_len fr_len RT.boot_len (ja_cons (je_fld CO_Bench NO_Bench_later (je_v v0)) ja_nil))))))
theorem o_Bench_operations (KX : K.In base) (GX : base.Ns mainGlobals mg) (c : He.SaysD fa fn K) (hxb : xb K = true) (hns : BaseOk K mg base) (htr : P.given.tree = none) (hpr : PrgOk P file) (hml : el.map (fun d => mtW K d.x) = el.map ErD.val) : MthO P w K mg base "Bench" "operations" 1 PG.sp_Bench_operations := by
  obtain ⟨fd, F⟩ := c.def_ 3 (d := dd_Bench_operations) rfl
  unfold PG.sp_Bench_operations
  exact mthO_of (c.fact 36 (f := .glo "Bench") rfl) (c.fact 37 (f := .cls "Bench") rfl) (c.fact 42 (f := .meth "Bench" "operations") rfl) (fnO_of (N := (["self"] : List Str)) hns htr F sc_Bench_operations rfl rfl (by decide) (fun X Wx cdv A outer s H E hX tk hcd am => by subst hX; exact d_Bench_operations tk am sc_Bench_operations.nd rfl (passes_of rfl) rfl rfl (fun _ => rfl) rfl rfl (He.free_ok KX GX (c.fact 29 (f := .free "len") rfl)) (clsO_of (c.fact 36 (f := .glo "Bench") rfl) (c.fact 37 (f := .cls "Bench") rfl)) (noaO_of (c.fact 36 (f := .glo "Bench") rfl) (c.fact 40 (f := .noat "Bench" "later") rfl)))) (F.bindsN (fun _ _ _ _ _ _ us hl => match us, hl with | [_], _ => rfl))

theorem sc_Bench_put : FnScope (["self", "index", "element", "train"] : List Str) (["self", "index", "element"] : List Str) (defScope s_Bench_put) := ⟨rfl, rfl, rfl, by decide +kernel, rfl, by decide +kernel, by decide +kernel⟩
theorem d_Bench_put {X : Cx} {Wx : WX} (tk : Takes X Wx) (am : Amb 2 X) (hN : X.N.Nodup) (hc : X.calm = true) (hxe : PassesOwn (model X.prog X.w) X.A X.env X.xe) (eN : X.N = (["self", "index", "element", "train"] : List Str)) (eS : X.env.scope = defScope s_Bench_put) (hfn : ∀ x, X.fn x = true) (hsk : X.stack = X.env :: X.outer) (hfl : X.env.frame = some X.env.locals) (fr_len : X.mg "len" = none) (C_MOST : CstG X.K X.mg "MOST" PG.v_MOST) (O_Bench_train : MthO X.prog X.w X.K X.mg X.base "Bench" "train" 1 PG.sp_Bench_train) (CO_Bench : ClsO X.K "Bench") (NO_Bench_later : NoaO X.K "Bench" "later") (E_einB_NoSuchPosition : ErrI X.prog X.w X.K X.mg X.base "NoSuchPosition" 1) (E_excB_TrainFull : ExcG X.K X.mg "TrainFull") : JSOs X Wx (defBody s_Bench_put) PG.w_Bench_put := by
  have hr := am.rm
  have n0 : X.N[0]? = some ("self" : Str) := by rw [eN]; rfl
  have v0 : SlotOk X 0 "self" := slot_of eS eN hfn rfl (.inl rfl)
  have n1 : X.N[1]? = some ("index" : Str) := by rw [eN]; rfl
  have v1 : SlotOk X 1 "index" := slot_of eS eN hfn rfl (.inl rfl)
  have n2 : X.N[2]? = some ("element" : Str) := by rw [eN]; rfl
  have v2 : SlotOk X 2 "element" := slot_of eS eN hfn rfl (.inl rfl)
  have n3 : X.N[3]? = some ("train" : Str) := by rw [eN]; rfl
  have v3 : SlotOk X 3 "train" := slot_of eS eN hfn rfl (.inl rfl)
  have gl_len : Gl X "len" := gl_of eS rfl
  have gl_NoSuchPosition : Gl X "NoSuchPosition" := gl_of eS rfl
  have gl_MOST : Gl X "MOST" := gl_of eS rfl
  have gl_TrainFull : Gl X "TrainFull" := gl_of eS rfl
  exact (so_cons (so_set hN v3 (eo_meth0 O_Bench_train hr tk (eo_of (fun os => by letI : Ghost := gho X.K os; exact (je_v v0)))))
  (so_cons (so_if (to_of (fun os => by letI : Ghost := gho X.K os; exact (jt_not (jt_chain op_le op_le je_int (je_v v1) (je_bi b_len gl_len fr_len RT.boot_len (ja_cons (je_v v3) ja_nil))))))
  (so_one (so_raise E_einB_NoSuchPosition hr hc tk gl_NoSuchPosition (eo_of (fun os => by letI : Ghost := gho X.K os; exact (je_v v1)))))
  so_nil)
  (so_cons (so_if (to_of (fun os => by letI : Ghost := gho X.K os; exact (jt_cmp o_ge (je_bi b_len gl_len fr_len RT.boot_len (ja_cons (je_v v3) ja_nil)) (je_glob ⟨gl_MOST, C_MOST, by decide⟩) (nomark _))))
  (so_one (so_raise0 E_excB_TrainFull rfl hc tk gl_TrainFull))
  so_nil)
  (so_cons (so_of (fun os => by letI : Ghost := gho X.K os; exact (js_do (je_meth PySem.F.slot_list_append PySem.F.type_list_append m_append (je_fld CO_Bench NO_Bench_later (je_v v0)) (ja_cons (je_op o_addA (je_op o_addA (je_sl false (je_v v3) jo_none (jo_some (je_v v1))) (je_lst (ja_cons (je_v v2) ja_nil))) (je_sl false (je_v v3) (jo_some (je_v v1)) jo_none)) ja_nil)))))
  (so_one (so_of (fun os => by letI : Ghost := gho X.K os; exact (js_ret (je_op o_addA (je_bi b_len gl_len fr_len RT.boot_len (ja_cons (je_v v3) ja_nil)) je_int)))))))))
theorem o_Bench_put (KX : K.In base) (GX : base.Ns mainGlobals mg) (c : He.SaysD fa fn K) (hxb : xb K = true) (hns : BaseOk K mg base) (htr : P.given.tree = none) (hpr : PrgOk P file) (hml : el.map (fun d => mtW K d.x) = el.map ErD.val) : MthO P w K mg base "Bench" "put" 3 PG.sp_Bench_put := by
  obtain ⟨fd, F⟩ := c.def_ 4 (d := dd_Bench_put) rfl
  unfold PG.sp_Bench_put
  exact mthO_of (c.fact 36 (f := .glo "Bench") rfl) (c.fact 37 (f := .cls "Bench") rfl) (c.fact 43 (f := .meth "Bench" "put") rfl) (fnO_of (N := (["self", "index", "element", "train"] : List Str)) hns htr F sc_Bench_put rfl rfl (by decide) (fun X Wx cdv A outer s H E hX tk hcd am => by subst hX; exact d_Bench_put tk am sc_Bench_put.nd rfl (passes_of rfl) rfl rfl (fun _ => rfl) rfl rfl (He.free_ok KX GX (c.fact 29 (f := .free "len") rfl)) (cst_MOST KX GX c hxb) (o_Bench_train (P := P) (w := w) KX GX c hxb hns htr hpr hml) (clsO_of (c.fact 36 (f := .glo "Bench") rfl) (c.fact 37 (f := .cls "Bench") rfl)) (noaO_of (c.fact 36 (f := .glo "Bench") rfl) (c.fact 40 (f := .noat "Bench" "later") rfl)) (e_einB_NoSuchPosition (P := P) (w := w) KX GX c hxb hpr hml) (e_excB_TrainFull KX GX hxb))) (F.bindsN (fun _ _ _ _ _ _ us hl => match us, hl with | [_, _, _], _ => rfl))

theorem sc_Bench_take : FnScope (["self", "index", "train"] : List Str) (["self", "index"] : List Str) (defScope s_Bench_take) := ⟨rfl, rfl, rfl, by decide +kernel, rfl, by decide +kernel, by decide +kernel⟩
theorem d_Bench_take {X : Cx} {Wx : WX} (tk : Takes X Wx) (am : Amb 2 X) (hN : X.N.Nodup) (hc : X.calm = true) (hxe : PassesOwn (model X.prog X.w) X.A X.env X.xe) (eN : X.N = (["self", "index", "train"] : List Str)) (eS : X.env.scope = defScope s_Bench_take) (hfn : ∀ x, X.fn x = true) (hsk : X.stack = X.env :: X.outer) (hfl : X.env.frame = some X.env.locals) (fr_len : X.mg "len" = none) (O_Bench_train : MthO X.prog X.w X.K X.mg X.base "Bench" "train" 1 PG.sp_Bench_train) (CO_Bench : ClsO X.K "Bench") (NO_Bench_later : NoaO X.K "Bench" "later") (E_einB_NoSuchElement : ErrI X.prog X.w X.K X.mg X.base "NoSuchElement" 1) : JSOs X Wx (defBody s_Bench_take) PG.w_Bench_take := by
  have hr := am.rm
  have n0 : X.N[0]? = some ("self" : Str) := by rw [eN]; rfl
  have v0 : SlotOk X 0 "self" := slot_of eS eN hfn rfl (.inl rfl)
  have n1 : X.N[1]? = some ("index" : Str) := by rw [eN]; rfl
  have v1 : SlotOk X 1 "index" := slot_of eS eN hfn rfl (.inl rfl)
  have n2 : X.N[2]? = some ("train" : Str) := by rw [eN]; rfl
  have v2 : SlotOk X 2 "train" := slot_of eS eN hfn rfl (.inl rfl)
  have gl_len : Gl X "len" := gl_of eS rfl
  have gl_NoSuchElement : Gl X "NoSuchElement" := gl_of eS rfl
  exact (so_cons (so_set hN v2 (eo_meth0 O_Bench_train hr tk (eo_of (fun os => by letI : Ghost := gho X.K os; exact (je_v v0)))))
  (so_cons (so_if (to_of (fun os => by letI : Ghost := gho X.K os; exact (jt_not (jt_chain op_le op_lt je_int (je_v v1) (je_bi b_len gl_len fr_len RT.boot_len (ja_cons (je_v v2) ja_nil))))))
  (so_one (so_raise E_einB_NoSuchElement hr hc tk gl_NoSuchElement (eo_of (fun os => by letI : Ghost := gho X.K os; exact (je_v v1)))))
  so_nil)
  (so_cons (so_of (fun os => by letI : Ghost := gho X.K os; exact (js_do (je_meth PySem.F.slot_list_append PySem.F.type_list_append m_append (je_fld CO_Bench NO_Bench_later (je_v v0)) (ja_cons (je_op o_addA (je_sl false (je_v v2) jo_none (jo_some (je_v v1))) (je_sl false (je_v v2) (jo_some (je_op o_addA (je_v v1) je_int)) jo_none)) ja_nil)))))
  (so_one (so_of (fun os => by letI : Ghost := gho X.K os; exact (js_ret (je_ix (je_v v2) (je_v v1)))))))))
theorem o_Bench_take (KX : K.In base) (GX : base.Ns mainGlobals mg) (c : He.SaysD fa fn K) (hxb : xb K = true) (hns : BaseOk K mg base) (htr : P.given.tree = none) (hpr : PrgOk P file) (hml : el.map (fun d => mtW K d.x) = el.map ErD.val) : MthO P w K mg base "Bench" "take" 3 PG.sp_Bench_take := by
  obtain ⟨fd, F⟩ := c.def_ 5 (d := dd_Bench_take) rfl
  unfold PG.sp_Bench_take
  exact mthO_of (c.fact 36 (f := .glo "Bench") rfl) (c.fact 37 (f := .cls "Bench") rfl) (c.fact 44 (f := .meth "Bench" "take") rfl) (fnO_of (N := (["self", "index", "train"] : List Str)) hns htr F sc_Bench_take rfl rfl (by decide) (fun X Wx cdv A outer s H E hX tk hcd am => by subst hX; exact d_Bench_take tk am sc_Bench_take.nd rfl (passes_of rfl) rfl rfl (fun _ => rfl) rfl rfl (He.free_ok KX GX (c.fact 29 (f := .free "len") rfl)) (o_Bench_train (P := P) (w := w) KX GX c hxb hns htr hpr hml) (clsO_of (c.fact 36 (f := .glo "Bench") rfl) (c.fact 37 (f := .cls "Bench") rfl)) (noaO_of (c.fact 36 (f := .glo "Bench") rfl) (c.fact 40 (f := .noat "Bench" "later") rfl)) (e_einB_NoSuchElement (P := P) (w := w) KX GX c hxb hpr hml))) (F.bindsN (fun _ _ _ _ _ _ us hl => match us, hl with | [_, _], _ => rfl))

theorem sc_Bench_exchange : FnScope (["self", "index", "element", "train"] : List Str) (["self", "index", "element"] : List Str) (defScope s_Bench_exchange) := ⟨rfl, rfl, rfl, by decide +kernel, rfl, by decide +kernel, by decide +kernel⟩
theorem d_Bench_exchange {X : Cx} {Wx : WX} (tk : Takes X Wx) (am : Amb 2 X) (hN : X.N.Nodup) (hc : X.calm = true) (hxe : PassesOwn (model X.prog X.w) X.A X.env X.xe) (eN : X.N = (["self", "index", "element", "train"] : List Str)) (eS : X.env.scope = defScope s_Bench_exchange) (hfn : ∀ x, X.fn x = true) (hsk : X.stack = X.env :: X.outer) (hfl : X.env.frame = some X.env.locals) (fr_len : X.mg "len" = none) (O_Bench_train : MthO X.prog X.w X.K X.mg X.base "Bench" "train" 1 PG.sp_Bench_train) (CO_Bench : ClsO X.K "Bench") (NO_Bench_later : NoaO X.K "Bench" "later") (E_einB_NoSuchElement : ErrI X.prog X.w X.K X.mg X.base "NoSuchElement" 1) : JSOs X Wx (defBody s_Bench_exchange) PG.w_Bench_exchange := by
  have hr := am.rm
  have n0 : X.N[0]? = some ("self" : Str) := by rw [eN]; rfl
  have v0 : SlotOk X 0 "self" := slot_of eS eN hfn rfl (.inl rfl)
  have n1 : X.N[1]? = some ("index" : Str) := by rw [eN]; rfl
  have v1 : SlotOk X 1 "index" := slot_of eS eN hfn rfl (.inl rfl)
  have n2 : X.N[2]? = some ("element" : Str) := by rw [eN]; rfl
  have v2 : SlotOk X 2 "element" := slot_of eS eN hfn rfl (.inl rfl)
  have n3 : X.N[3]? = some ("train" : Str) := by rw [eN]; rfl
  have v3 : SlotOk X 3 "train" := slot_of eS eN hfn rfl (.inl rfl)
  have gl_len : Gl X "len" := gl_of eS rfl
  have gl_NoSuchElement : Gl X "NoSuchElement" := gl_of eS rfl
  exact (so_cons (so_set hN v3 (eo_meth0 O_Bench_train hr tk (eo_of (fun os => by letI : Ghost := gho X.K os; exact (je_v v0)))))
  (so_cons (so_if (to_of (fun os => by letI : Ghost := gho X.K os; exact (jt_not (jt_chain op_le op_lt je_int (je_v v1) (je_bi b_len gl_len fr_len RT.boot_len (ja_cons (je_v v3) ja_nil))))))
  (so_one (so_raise E_einB_NoSuchElement hr hc tk gl_NoSuchElement (eo_of (fun os => by letI : Ghost := gho X.K os; exact (je_v v1)))))
  so_nil)
  (so_cons (so_of (fun os => by letI : Ghost := gho X.K os; exact (js_do (je_meth PySem.F.slot_list_append PySem.F.type_list_append m_append (je_fld CO_Bench NO_Bench_later (je_v v0)) (ja_cons (je_op o_addA (je_op o_addA (je_sl false (je_v v3) jo_none (jo_some (je_v v1))) (je_lst (ja_cons (je_v v2) ja_nil))) (je_sl false (je_v v3) (jo_some (je_op o_addA (je_v v1) je_int)) jo_none)) ja_nil)))))
  (so_one (so_of (fun os => by letI : Ghost := gho X.K os; exact (js_ret (je_ix (je_v v3) (je_v v1)))))))))
theorem o_Bench_exchange (KX : K.In base) (GX : base.Ns mainGlobals mg) (c : He.SaysD fa fn K) (hxb : xb K = true) (hns : BaseOk K mg base) (htr : P.given.tree = none) (hpr : PrgOk P file) (hml : el.map (fun d => mtW K d.x) = el.map ErD.val) : MthO P w K mg base "Bench" "exchange" 3 PG.sp_Bench_exchange := by
  obtain ⟨fd, F⟩ := c.def_ 6 (d := dd_Bench_exchange) rfl
  unfold PG.sp_Bench_exchange
  exact mthO_of (c.fact 36 (f := .glo "Bench") rfl) (c.fact 37 (f := .cls "Bench") rfl) (c.fact 45 (f := .meth "Bench" "exchange") rfl) (fnO_of (N := (["self", "index", "element", "train"] : List Str)) hns htr F sc_Bench_exchange rfl rfl (by decide) (fun X Wx cdv A outer s H E hX tk hcd am => by subst hX; exact d_Bench_exchange tk am sc_Bench_exchange.nd rfl (passes_of rfl) rfl rfl (fun _ => rfl) rfl rfl (He.free_ok KX GX (c.fact 29 (f := .free "len") rfl)) (o_Bench_train (P := P) (w := w) KX GX c hxb hns htr hpr hml) (clsO_of (c.fact 36 (f := .glo "Bench") rfl) (c.fact 37 (f := .cls "Bench") rfl)) (noaO_of (c.fact 36 (f := .glo "Bench") rfl) (c.fact 40 (f := .noat "Bench" "later") rfl)) (e_einB_NoSuchElement (P := P) (w := w) KX GX c hxb hpr hml))) (F.bindsN (fun _ _ _ _ _ _ us hl => match us, hl with | [_, _, _], _ => rfl))

theorem sc_Bench_undo : FnScope (["self"] : List Str) (["self"] : List Str) (defScope s_Bench_undo) := ⟨rfl, rfl, rfl, by decide +kernel, rfl, by decide +kernel, by decide +kernel⟩
theorem d_Bench_undo {X : Cx} {Wx : WX} (tk : Takes X Wx) (am : Amb 0 X) (hN : X.N.Nodup) (hc : X.calm = true) (hxe : PassesOwn (model X.prog X.w) X.A X.env X.xe) (eN : X.N = (["self"] : List Str)) (eS : X.env.scope = defScope s_Bench_undo) (hfn : ∀ x, X.fn x = true) (hsk : X.stack = X.env :: X.outer) (hfl : X.env.frame = some X.env.locals) (CO_Bench : ClsO X.K "Bench") (NO_Bench_later : NoaO X.K "Bench" "later") : JSOs X Wx (defBody s_Bench_undo) PG.w_Bench_undo := by
  have hr := am.rm
  have n0 : X.N[0]? = some ("self" : Str) := by rw [eN]; rfl
  have v0 : SlotOk X 0 "self" := slot_of eS eN hfn rfl (.inl rfl)
  exact (so_cons (so_of (fun os => by letI : Ghost := gho X.K os; exact (js_if (jt_not (jt_tru (je_fld CO_Bench NO_Bench_later (je_v v0))))
  (js_one (js_ret je_bl))
  js_nil)))
  (so_cons (so_of (fun os => by letI : Ghost := gho X.K os; exact (js_do (je_meth0 PySem.F.slot_list_pop PySem.F.type_list_pop m_pop (je_fld CO_Bench NO_Bench_later (je_v v0))))))
  (so_one (so_of (fun os => by letI : Ghost := gho X.K os; exact (js_ret je_bl))))))
theorem o_Bench_undo (KX : K.In base) (GX : base.Ns mainGlobals mg) (c : He.SaysD fa fn K) (hxb : xb K = true) (hns : BaseOk K mg base) (htr : P.given.tree = none) (hpr : PrgOk P file) (hml : el.map (fun d => mtW K d.x) = el.map ErD.val) : MthO P w K mg base "Bench" "undo" 1 PG.sp_Bench_undo := by
  obtain ⟨fd, F⟩ := c.def_ 7 (d := dd_Bench_undo) rfl
  unfold PG.sp_Bench_undo
  exact mthO_of (c.fact 36 (f := .glo "Bench") rfl) (c.fact 37 (f := .cls "Bench") rfl) (c.fact 46 (f := .meth "Bench" "undo") rfl) (fnO_of (N := (["self"] : List Str)) hns htr F sc_Bench_undo rfl rfl (by decide) (fun X Wx cdv A outer s H E hX tk hcd am => by subst hX; exact d_Bench_undo tk am sc_Bench_undo.nd rfl (passes_of rfl) rfl rfl (fun _ => rfl) rfl rfl (clsO_of (c.fact 36 (f := .glo "Bench") rfl) (c.fact 37 (f := .cls "Bench") rfl)) (noaO_of (c.fact 36 (f := .glo "Bench") rfl) (c.fact 40 (f := .noat "Bench" "later") rfl)))) (F.bindsN (fun _ _ _ _ _ _ us hl => match us, hl with | [_], _ => rfl))

theorem sc_Bench_history : FnScope (["self", "train"] : List Str) (["self"] : List Str) (defScope s_Bench_history) := ⟨rfl, rfl, rfl, by decide +kernel, rfl, by decide +kernel, by decide +kernel⟩
theorem d_Bench_history {X : Cx} {Wx : WX} (tk : Takes X Wx) (am : Amb 0 X) (hN : X.N.Nodup) (hc : X.calm = true) (hxe : PassesOwn (model X.prog X.w) X.A X.env X.xe) (eN : X.N = (["self", "train"] : List Str)) (eS : X.env.scope = defScope s_Bench_history) (hfn : ∀ x, X.fn x = true) (hsk : X.stack = X.env :: X.outer) (hfl : X.env.frame = some X.env.locals) (fr_list : X.mg "list" = none) (CO_Bench : ClsO X.K "Bench") (NO_Bench_later : NoaO X.K "Bench" "later") : JSOs X Wx (defBody s_Bench_history) PG.w_Bench_history := by
  have hr := am.rm
  have n0 : X.N[0]? = some ("self" : Str) := by rw [eN]; rfl
  have v0 : SlotOk X 0 "self" := slot_of eS eN hfn rfl (.inl rfl)
  have n1 : X.N[1]? = some ("train" : Str) := by rw [eN]; rfl
  exact (so_one (so_of (fun os => by letI : Ghost := gho X.K os; exact (js_ret (je_lc false (own' := [("train", 1)]) (by decide) hc hN (ji_any (je_fld CO_Bench NO_Bench_later (je_v v0))) (blk_of eN eS (own := [("train", 1)]) (by decide +kernel)) (fun s H C cl fp => (jg_of (pg_name (i := 1) hN n1 (by first | exact .inl rfl | exact .inr rfl)))) (fun s H C cl fp => jts_nil) (fun s H C cl fp => (je_bty b_list (by rfl) fr_list RT.boot_list (ja_cons (je_var 1 n1 (hv := (by first | exact Or.inl rfl | exact Or.inr (Or.inl rfl) | exact vis_free (by decide +kernel)))) ja_nil))))))))
theorem o_Bench_history (KX : K.In base) (GX : base.Ns mainGlobals mg) (c : He.SaysD fa fn K) (hxb : xb K = true) (hns : BaseOk K mg base) (htr : P.given.tree = none) (hpr : PrgOk P file) (hml : el.map (fun d => mtW K d.x) = el.map ErD.val) : MthO P w K mg base "Bench" "history" 1 PG.sp_Bench_history := by
  obtain ⟨fd, F⟩ := c.def_ 8 (d := dd_Bench_history) rfl
  unfold PG.sp_Bench_history
  exact mthO_of (c.fact 36 (f := .glo "Bench") rfl) (c.fact 37 (f := .cls "Bench") rfl) (c.fact 47 (f := .meth "Bench" "history") rfl) (fnO_of (N := (["self", "train"] : List Str)) hns htr F sc_Bench_history rfl rfl (by decide) (fun X Wx cdv A outer s H E hX tk hcd am => by subst hX; exact d_Bench_history tk am sc_Bench_history.nd rfl (passes_of rfl) rfl rfl (fun _ => rfl) rfl rfl (He.free_ok KX GX (c.fact 30 (f := .free "list") rfl)) (clsO_of (c.fact 36 (f := .glo "Bench") rfl) (c.fact 37 (f := .cls "Bench") rfl)) (noaO_of (c.fact 36 (f := .glo "Bench") rfl) (c.fact 40 (f := .noat "Bench" "later") rfl)))) (F.bindsN (fun _ _ _ _ _ _ us hl => match us, hl with | [_], _ => rfl))

theorem sc_Bench_history_own : FnScope (["self", "train"] : List Str) (["self"] : List Str) (defScope s_Bench_history_own) := ⟨rfl, rfl, rfl, by decide +kernel, rfl, by decide +kernel, by decide +kernel⟩
theorem d_Bench_history_own {X : Cx} {Wx : WX} (tk : Takes X Wx) (am : Amb 0 X) (hN : X.N.Nodup) (hc : X.calm = true) (hxe : PassesOwn (model X.prog X.w) X.A X.env X.xe) (eN : X.N = (["self", "train"] : List Str)) (eS : X.env.scope = defScope s_Bench_history_own) (hfn : ∀ x, X.fn x = true) (hsk : X.stack = X.env :: X.outer) (hfl : X.env.frame = some X.env.locals) (fr_list : X.mg "list" = none) (CO_Bench : ClsO X.K "Bench") (NO_Bench_later : NoaO X.K "Bench" "later") : JSOs X Wx (defBody s_Bench_history_own) PG.w_Bench_history_own := by
  have hr := am.rm
  have n0 : X.N[0]? = some ("self" : Str) := by rw [eN]; rfl
  have v0 : SlotOk X 0 "self" := slot_of eS eN hfn rfl (.inl rfl)
  have n1 : X.N[1]? = some ("train" : Str) := by rw [eN]; rfl
  exact (so_one (so_ret (eo_of (fun os => by letI : Ghost := gho X.K os; exact (je_lc true (own' := [("train", 1)]) (by decide) hc hN (ji_any (je_fld CO_Bench NO_Bench_later (je_v v0))) (blk_of eN eS (own := [("train", 1)]) (by decide +kernel)) (fun s H C cl fp => (jg_of (pg_name (i := 1) hN n1 (by first | exact .inl rfl | exact .inr rfl)))) (fun s H C cl fp => jts_nil) (fun s H C cl fp => (je_bty b_list (by rfl) fr_list RT.boot_list (ja_cons (je_var 1 n1 (hv := (by first | exact Or.inl rfl | exact Or.inr (Or.inl rfl) | exact vis_free (by decide +kernel)))) ja_nil))))))))
theorem o_Bench_history_own (KX : K.In base) (GX : base.Ns mainGlobals mg) (c : He.SaysD fa fn K) (hxb : xb K = true) (hns : BaseOk K mg base) (htr : P.given.tree = none) (hpr : PrgOk P file) (hml : el.map (fun d => mtW K d.x) = el.map ErD.val) : MthO P w K mg base "Bench" "history" 1 PG.sp_Bench_history_own := by
  obtain ⟨fd, F⟩ := c.def_ 9 (d := dd_Bench_history_own) rfl
  unfold PG.sp_Bench_history_own
  exact mthO_of (c.fact 36 (f := .glo "Bench") rfl) (c.fact 37 (f := .cls "Bench") rfl) (c.fact 47 (f := .meth "Bench" "history") rfl) (fnO_of (N := (["self", "train"] : List Str)) hns htr F sc_Bench_history_own rfl rfl (by decide) (fun X Wx cdv A outer s H E hX tk hcd am => by subst hX; exact d_Bench_history_own tk am sc_Bench_history_own.nd rfl (passes_of rfl) rfl rfl (fun _ => rfl) rfl rfl (He.free_ok KX GX (c.fact 30 (f := .free "list") rfl)) (clsO_of (c.fact 36 (f := .glo "Bench") rfl) (c.fact 37 (f := .cls "Bench") rfl)) (noaO_of (c.fact 36 (f := .glo "Bench") rfl) (c.fact 40 (f := .noat "Bench" "later") rfl)))) (F.bindsN (fun _ _ _ _ _ _ us hl => match us, hl with | [_], _ => rfl))

theorem sc_Bench_branch : FnScope (["self", "other", "train"] : List Str) (["self"] : List Str) (defScope s_Bench_branch) := ⟨rfl, rfl, rfl, by decide +kernel, rfl, by decide +kernel, by decide +kernel⟩
theorem d_Bench_branch {X : Cx} {Wx : WX} (tk : Takes X Wx) (am : Amb 4 X) (hN : X.N.Nodup) (hc : X.calm = true) (hxe : PassesOwn (model X.prog X.w) X.A X.env X.xe) (eN : X.N = (["self", "other", "train"] : List Str)) (eS : X.env.scope = defScope s_Bench_branch) (hfn : ∀ x, X.fn x = true) (hsk : X.stack = X.env :: X.outer) (hfl : X.env.frame = some X.env.locals) (fr_list : X.mg "list" = none) (O_Bench___init__ : MkO X.prog X.w X.K X.mg X.base "Bench" 3 PG.sp_Bench___init__) (CO_Bench : ClsO X.K "Bench") (NO_Bench_initial : NoaO X.K "Bench" "initial") (NO_Bench_later : NoaO X.K "Bench" "later") : JSOs X Wx (defBody s_Bench_branch) PG.w_Bench_branch_2 := by
  have hr := am.rm
  have n0 : X.N[0]? = some ("self" : Str) := by rw [eN]; rfl
  have v0 : SlotOk X 0 "self" := slot_of eS eN hfn rfl (.inl rfl)
  have n1 : X.N[1]? = some ("other" : Str) := by rw [eN]; rfl
  have v1 : SlotOk X 1 "other" := slot_of eS eN hfn rfl (.inl rfl)
  have n2 : X.N[2]? = some ("train" : Str) := by rw [eN]; rfl
  have gl_Bench : Gl X "Bench" := gl_of eS rfl
  exact (so_cons (so_set hN v1 (eo_make O_Bench___init__ hr gl_Bench tk (ao_of (fun os => by letI : Ghost := gho X.K os; exact (ja_cons (je_fld CO_Bench NO_Bench_initial (je_v v0)) ja_nil)))))
  (so_cons (so_fld CO_Bench NO_Bench_later v1.hN v1.vis (eo_of (fun os => by letI : Ghost := gho X.K os; exact (je_lc true (own' := [("train", 2)]) (by decide) hc hN (ji_any (je_fld CO_Bench NO_Bench_later (je_v v0))) (blk_of eN eS (own := [("train", 2)]) (by decide +kernel)) (fun s H C cl fp => (jg_of (pg_name (i := 2) hN n2 (by first | exact .inl rfl | exact .inr rfl)))) (fun s H C cl fp => jts_nil) (fun s H C cl fp => (je_bty b_list (by rfl) fr_list RT.boot_list (ja_cons (je_var 2 n2 (hv := (by first | exact Or.inl rfl | exact Or.inr (Or.inl rfl) | exact vis_free (by decide +kernel)))) ja_nil)))))))
  (so_one (so_of (fun os => by letI : Ghost := gho X.K os; exact (js_ret (je_v v1)))))))
theorem o_Bench_branch (KX : K.In base) (GX : base.Ns mainGlobals mg) (c : He.SaysD fa fn K) (hxb : xb K = true) (hns : BaseOk K mg base) (htr : P.given.tree = none) (hpr : PrgOk P file) (hml : el.map (fun d => mtW K d.x) = el.map ErD.val) : MthO P w K mg base "Bench" "branch" 5 PG.sp_Bench_branch_2 := by
  obtain ⟨fd, F⟩ := c.def_ 10 (d := dd_Bench_branch) rfl
  unfold PG.sp_Bench_branch_2
  exact mthO_of (c.fact 36 (f := .glo "Bench") rfl) (c.fact 37 (f := .cls "Bench") rfl) (c.fact 48 (f := .meth "Bench" "branch") rfl) (fnO_of (N := (["self", "other", "train"] : List Str)) hns htr F sc_Bench_branch rfl rfl (by decide) (fun X Wx cdv A outer s H E hX tk hcd am => by subst hX; exact d_Bench_branch tk am sc_Bench_branch.nd rfl (passes_of rfl) rfl rfl (fun _ => rfl) rfl rfl (He.free_ok KX GX (c.fact 30 (f := .free "list") rfl)) (o_Bench___init__ (P := P) (w := w) KX GX c hxb hns htr hpr hml) (clsO_of (c.fact 36 (f := .glo "Bench") rfl) (c.fact 37 (f := .cls "Bench") rfl)) (noaO_of (c.fact 36 (f := .glo "Bench") rfl) (c.fact 39 (f := .noat "Bench" "initial") rfl)) (noaO_of (c.fact 36 (f := .glo "Bench") rfl) (c.fact 40 (f := .noat "Bench" "later") rfl)))) (F.bindsN (fun _ _ _ _ _ _ us hl => match us, hl with | [_], _ => rfl))

theorem sc__law_cell : FnScope (["_law_script", "_law_k"] : List Str) (["_law_script", "_law_k"] : List Str) (defScope s__law_cell) := ⟨rfl, rfl, rfl, by decide +kernel, rfl, by decide +kernel, by decide +kernel⟩
theorem d__law_cell {X : Cx} (am : Amb 0 X) (hN : X.N.Nodup) (hc : X.calm = true) (hxe : PassesOwn (model X.prog X.w) X.A X.env X.xe) (eN : X.N = (["_law_script", "_law_k"] : List Str)) (eS : X.env.scope = defScope s__law_cell) (hfn : ∀ x, X.fn x = true) (fr_len : X.mg "len" = none) : JSs X (defBody s__law_cell) PG.w__law_cell := by
  have hr := am.rm
  have n0 : X.N[0]? = some ("_law_script" : Str) := by rw [eN]; rfl
  have v0 : SlotOk X 0 "_law_script" := slot_of eS eN hfn rfl (.inl rfl)
  have n1 : X.N[1]? = some ("_law_k" : Str) := by rw [eN]; rfl
  have v1 : SlotOk X 1 "_law_k" := slot_of eS eN hfn rfl (.inl rfl)
  have gl_len : Gl X "len" := gl_of eS rfl
  exact (js_cons (js_if (jt_cmp o_lt (je_v v1) (je_bi b_len gl_len fr_len RT.boot_len (ja_cons (je_v v0) ja_nil)) (nomark _))
  (js_one (js_ret (je_ix (je_v v0) (je_v v1))))
  js_nil)
  (js_one (js_ret je_int)))
theorem g__law_cell (KX : K.In base) (GX : base.Ns mainGlobals mg) (c : He.SaysD fa fn K) (hxb : xb K = true) (hns : BaseOk K mg base) (htr : P.given.tree = none) (hpr : PrgOk P file) (hml : el.map (fun d => mtW K d.x) = el.map ErD.val) : FnG P w K mg base "_law_cell" 1 PG.sp__law_cell [] := by
  obtain ⟨fd, F⟩ := c.def_ 11 (d := dd__law_cell) rfl
  unfold PG.sp__law_cell
  exact mkG (N := (["_law_script", "_law_k"] : List Str)) false hns htr F (He.glo_ok KX GX (c.fact 11 (f := .glo "_law_cell") rfl)) sc__law_cell rfl rfl (fun _ _ _ _ _ _ us hl => match us, hl with | [_, _], _ => rfl) (fun X cdv A outer s H E hX hcd am => by subst hX; exact d__law_cell am sc__law_cell.nd rfl PassesOwn.never rfl rfl (fun _ => rfl) (He.free_ok KX GX (c.fact 29 (f := .free "len") rfl)))

theorem sc__law_row : FnScope (["_law_cell_here", "_law_k", "_law_many", "_law_row_here", "_law_turn", "_law_seed"] : List Str) (["_law_cell_here", "_law_k", "_law_many"] : List Str) (defScope s__law_row) := ⟨rfl, rfl, rfl, by decide +kernel, rfl, by decide +kernel, by decide +kernel⟩
theorem d__law_row {X : Cx} (am : Amb 0 X) (hN : X.N.Nodup) (hc : X.calm = true) (hxe : PassesOwn (model X.prog X.w) X.A X.env X.xe) (eN : X.N = (["_law_cell_here", "_law_k", "_law_many", "_law_row_here", "_law_turn", "_law_seed"] : List Str)) (eS : X.env.scope = defScope s__law_row) (hfn : ∀ x, X.fn x = true) (fr_range : X.mg "range" = none) (fr_len : X.mg "len" = none) (fr_int : X.mg "int" = none) : JSs X (defBody s__law_row) PG.w__law_row := by
  have hr := am.rm
  have n0 : X.N[0]? = some ("_law_cell_here" : Str) := by rw [eN]; rfl
  have v0 : SlotOk X 0 "_law_cell_here" := slot_of eS eN hfn rfl (.inl rfl)
  have n1 : X.N[1]? = some ("_law_k" : Str) := by rw [eN]; rfl
  have v1 : SlotOk X 1 "_law_k" := slot_of eS eN hfn rfl (.inl rfl)
  have n2 : X.N[2]? = some ("_law_many" : Str) := by rw [eN]; rfl
  have v2 : SlotOk X 2 "_law_many" := slot_of eS eN hfn rfl (.inl rfl)
  have n3 : X.N[3]? = some ("_law_row_here" : Str) := by rw [eN]; rfl
  have v3 : SlotOk X 3 "_law_row_here" := slot_of eS eN hfn rfl (.inl rfl)
  have n4 : X.N[4]? = some ("_law_turn" : Str) := by rw [eN]; rfl
  have v4 : SlotOk X 4 "_law_turn" := slot_of eS eN hfn rfl (.inl rfl)
  have n5 : X.N[5]? = some ("_law_seed" : Str) := by rw [eN]; rfl
  have v5 : SlotOk X 5 "_law_seed" := slot_of eS eN hfn rfl (.inl rfl)
  have gl_range : Gl X "range" := gl_of eS rfl
  have gl_len : Gl X "len" := gl_of eS rfl
  have gl_int : Gl X "int" := gl_of eS rfl
  exact (js_cons (js_st hN v3 (je_lstO ja_nil))
  (js_cons (js_if (jt_cmp o_lt (je_v v0) je_int (nomark _))
  (js_one (js_st hN v0 (je_op o_sub je_int (je_op o_mul je_int (je_v v0)))))
  js_nil)
  (js_cons (js_if (jt_cmp o_ge (je_v v0) (je_op o_pow je_int je_int) (nomark _))
  (js_cons (js_for hxe hc (ji_range1 gl_range fr_range (ja_cons je_int ja_nil)) (jg_of (pg_v hN v4))
  (js_one (js_if (jw_pt (jw_and (jt_cmp o_gt (je_v v0) je_int (nomark _)) (jw_and1 (jt_cmp o_lt (je_bi b_len gl_len fr_len RT.boot_len (ja_cons (je_v v3) ja_nil)) (je_v v2) (nomark _)))))
  (js_cons (js_do (je_meth PySem.F.slot_list_append PySem.F.type_list_append m_append (je_v v3) (ja_cons (je_op o_mod (je_bty b_int gl_int fr_int RT.boot_int (ja_cons (je_v v0) ja_nil)) je_int) ja_nil)))
  (js_one (js_st hN v0 (je_op (o_fdiv am.py) (je_v v0) je_int))))
  js_nil)))
  (js_one (js_ret (je_v v3))))
  js_nil)
  (js_cons (js_st hN v5 (je_op o_mod (je_bty b_int gl_int fr_int RT.boot_int (ja_cons (je_op o_addA (je_op o_addA (je_op o_mul (je_v v0) je_int) (je_op o_mul (je_v v1) je_int)) je_int) ja_nil)) je_int))
  (js_cons (js_for hxe hc (ji_range1 gl_range fr_range (ja_cons (je_v v2) ja_nil)) (jg_of (pg_v hN v4))
  (js_cons (js_st hN v5 (je_op o_mod (je_bty b_int gl_int fr_int RT.boot_int (ja_cons (je_op o_addA (je_op o_addA (je_op o_mul (je_v v5) je_int) (je_op o_mul je_int (je_v v4))) je_int) ja_nil)) je_int))
  (js_one (js_do (je_meth PySem.F.slot_list_append PySem.F.type_list_append m_append (je_v v3) (ja_cons (je_op o_mod (je_bty b_int gl_int fr_int RT.boot_int (ja_cons (je_op (o_fdiv am.py) (je_v v5) je_int) ja_nil)) je_int) ja_nil))))))
  (js_one (js_ret (je_v v3))))))))
theorem g__law_row (KX : K.In base) (GX : base.Ns mainGlobals mg) (c : He.SaysD fa fn K) (hxb : xb K = true) (hns : BaseOk K mg base) (htr : P.given.tree = none) (hpr : PrgOk P file) (hml : el.map (fun d => mtW K d.x) = el.map ErD.val) : FnG P w K mg base "_law_row" 1 PG.sp__law_row [] := by
  obtain ⟨fd, F⟩ := c.def_ 12 (d := dd__law_row) rfl
  unfold PG.sp__law_row
  exact mkG (N := (["_law_cell_here", "_law_k", "_law_many", "_law_row_here", "_law_turn", "_law_seed"] : List Str)) false hns htr F (He.glo_ok KX GX (c.fact 12 (f := .glo "_law_row") rfl)) sc__law_row rfl rfl (fun _ _ _ _ _ _ us hl => match us, hl with | [_, _, _], _ => rfl) (fun X cdv A outer s H E hX hcd am => by subst hX; exact d__law_row am sc__law_row.nd rfl PassesOwn.never rfl rfl (fun _ => rfl) (He.free_ok KX GX (c.fact 31 (f := .free "range") rfl)) (He.free_ok KX GX (c.fact 29 (f := .free "len") rfl)) (He.free_ok KX GX (c.fact 32 (f := .free "int") rfl)))

theorem sc__law_box : FnScope (["_law_script", "_law_first", "_law_last", "_law_row_here", "_law_k"] : List Str) (["_law_script", "_law_first", "_law_last"] : List Str) (defScope s__law_box) := ⟨rfl, rfl, rfl, by decide +kernel, rfl, by decide +kernel, by decide +kernel⟩
theorem d__law_box {X : Cx} (am : Amb 1 X) (hN : X.N.Nodup) (hc : X.calm = true) (hxe : PassesOwn (model X.prog X.w) X.A X.env X.xe) (eN : X.N = (["_law_script", "_law_first", "_law_last", "_law_row_here", "_law_k"] : List Str)) (eS : X.env.scope = defScope s__law_box) (hfn : ∀ x, X.fn x = true) (fr_range : X.mg "range" = none) (G__law_cell : FnG X.prog X.w X.K X.mg X.base "_law_cell" 1 PG.sp__law_cell []) (G__law_row : FnG X.prog X.w X.K X.mg X.base "_law_row" 1 PG.sp__law_row []) : JSs X (defBody s__law_box) PG.w__law_box := by
  have hr := am.rm
  have n0 : X.N[0]? = some ("_law_script" : Str) := by rw [eN]; rfl
  have v0 : SlotOk X 0 "_law_script" := slot_of eS eN hfn rfl (.inl rfl)
  have n1 : X.N[1]? = some ("_law_first" : Str) := by rw [eN]; rfl
  have v1 : SlotOk X 1 "_law_first" := slot_of eS eN hfn rfl (.inl rfl)
  have n2 : X.N[2]? = some ("_law_last" : Str) := by rw [eN]; rfl
  have v2 : SlotOk X 2 "_law_last" := slot_of eS eN hfn rfl (.inl rfl)
  have n3 : X.N[3]? = some ("_law_row_here" : Str) := by rw [eN]; rfl
  have v3 : SlotOk X 3 "_law_row_here" := slot_of eS eN hfn rfl (.inl rfl)
  have n4 : X.N[4]? = some ("_law_k" : Str) := by rw [eN]; rfl
  have v4 : SlotOk X 4 "_law_k" := slot_of eS eN hfn rfl (.inl rfl)
  have gl_range : Gl X "range" := gl_of eS rfl
  have gl__law_cell : Gl X "_law_cell" := gl_of eS rfl
  have gl__law_row : Gl X "_law_row" := gl_of eS rfl
  exact (js_cons (js_st hN v3 (je_lst ja_nil))
  (js_cons (js_for hxe hc (ji_range2 gl_range fr_range (ja_cons (je_v v1) (ja_cons (je_v v2) ja_nil))) (jg_of (pg_v hN v4))
  (js_one (js_st hN v3 (je_op o_addA (je_v v3) (je_cg G__law_row hr gl__law_row (ja_cons (je_cg G__law_cell hr gl__law_cell (ja_cons (je_v v0) (ja_cons (je_v v4) ja_nil))) (ja_cons (je_v v4) (ja_cons je_int ja_nil))))))))
  (js_one (js_ret (je_lstO (ja_cons (je_v v3) (ja_cons je_int ja_nil)))))))
theorem g__law_box (KX : K.In base) (GX : base.Ns mainGlobals mg) (c : He.SaysD fa fn K) (hxb : xb K = true) (hns : BaseOk K mg base) (htr : P.given.tree = none) (hpr : PrgOk P file) (hml : el.map (fun d => mtW K d.x) = el.map ErD.val) : FnG P w K mg base "_law_box" 2 PG.sp__law_box [] := by
  obtain ⟨fd, F⟩ := c.def_ 13 (d := dd__law_box) rfl
  unfold PG.sp__law_box
  exact mkG (N := (["_law_script", "_law_first", "_law_last", "_law_row_here", "_law_k"] : List Str)) true hns htr F (He.glo_ok KX GX (c.fact 13 (f := .glo "_law_box") rfl)) sc__law_box rfl rfl (fun _ _ _ _ _ _ us hl => match us, hl with | [_, _, _], _ => rfl) (fun X cdv A outer s H E hX hcd am => by subst hX; exact d__law_box am sc__law_box.nd rfl PassesOwn.never rfl rfl (fun _ => rfl) (He.free_ok KX GX (c.fact 31 (f := .free "range") rfl)) (g__law_cell (P := P) (w := w) KX GX c hxb hns htr hpr hml) (g__law_row (P := P) (w := w) KX GX c hxb hns htr hpr hml))

theorem sc__law_draw : FnScope (["_law_box_here", "_law_many", "_law_at"] : List Str) (["_law_box_here", "_law_many"] : List Str) (defScope s__law_draw) := ⟨rfl, rfl, rfl, by decide +kernel, rfl, by decide +kernel, by decide +kernel⟩
theorem d__law_draw {X : Cx} (am : Amb 0 X) (hN : X.N.Nodup) (hc : X.calm = true) (hxe : PassesOwn (model X.prog X.w) X.A X.env X.xe) (eN : X.N = (["_law_box_here", "_law_many", "_law_at"] : List Str)) (eS : X.env.scope = defScope s__law_draw) (hfn : ∀ x, X.fn x = true) (fr_len : X.mg "len" = none) (fr_int : X.mg "int" = none) : JSs X (defBody s__law_draw) PG.w__law_draw_2 := by
  have hr := am.rm
  have n0 : X.N[0]? = some ("_law_box_here" : Str) := by rw [eN]; rfl
  have v0 : SlotOk X 0 "_law_box_here" := slot_of eS eN hfn rfl (.inl rfl)
  have n1 : X.N[1]? = some ("_law_many" : Str) := by rw [eN]; rfl
  have v1 : SlotOk X 1 "_law_many" := slot_of eS eN hfn rfl (.inl rfl)
  have n2 : X.N[2]? = some ("_law_at" : Str) := by rw [eN]; rfl
  have v2 : SlotOk X 2 "_law_at" := slot_of eS eN hfn rfl (.inl rfl)
  have gl_len : Gl X "len" := gl_of eS rfl
  have gl_int : Gl X "int" := gl_of eS rfl
  exact (js_cons (js_st hN v2 (je_ix (je_v v0) je_int))
  (js_cons (js_setIx (je_op o_addA (je_v v2) je_int) (pg_sub (je_v v0) je_int set_list))
  (js_cons (js_if (jt_cmp o_lt (je_v v2) (je_bi b_len gl_len fr_len RT.boot_len (ja_cons (je_ix (je_v v0) je_int) ja_nil)) (nomark _))
  (js_one (js_ret (je_op o_mod (je_bty b_int gl_int fr_int RT.boot_int (ja_cons (je_ix (je_ix (je_v v0) je_int) (je_v v2)) ja_nil)) (je_v v1))))
  js_nil)
  (js_one (js_ret (je_op o_mod (je_bty b_int gl_int fr_int RT.boot_int (ja_cons (je_op o_addA (je_op o_mul (je_v v2) je_int) je_int) ja_nil)) (je_v v1)))))))
theorem g__law_draw (KX : K.In base) (GX : base.Ns mainGlobals mg) (c : He.SaysD fa fn K) (hxb : xb K = true) (hns : BaseOk K mg base) (htr : P.given.tree = none) (hpr : PrgOk P file) (hml : el.map (fun d => mtW K d.x) = el.map ErD.val) : FnG P w K mg base "_law_draw" 1 PG.sp__law_draw_2 [] := by
  obtain ⟨fd, F⟩ := c.def_ 14 (d := dd__law_draw) rfl
  unfold PG.sp__law_draw_2
  exact mkG (N := (["_law_box_here", "_law_many", "_law_at"] : List Str)) false hns htr F (He.glo_ok KX GX (c.fact 14 (f := .glo "_law_draw") rfl)) sc__law_draw rfl rfl (fun _ _ _ _ _ _ us hl => match us, hl with | [_, _], _ => rfl) (fun X cdv A outer s H E hX hcd am => by subst hX; exact d__law_draw am sc__law_draw.nd rfl PassesOwn.never rfl rfl (fun _ => rfl) (He.free_ok KX GX (c.fact 29 (f := .free "len") rfl)) (He.free_ok KX GX (c.fact 32 (f := .free "int") rfl)))

theorem sc__law_frac : FnScope (["_law_top", "_law_bottom", "_law_one", "_law_other"] : List Str) (["_law_top", "_law_bottom"] : List Str) (defScope s__law_frac) := ⟨rfl, rfl, rfl, by decide +kernel, rfl, by decide +kernel, by decide +kernel⟩
theorem d__law_frac {X : Cx} (am : Amb 0 X) (hN : X.N.Nodup) (hc : X.calm = true) (hxe : PassesOwn (model X.prog X.w) X.A X.env X.xe) (eN : X.N = (["_law_top", "_law_bottom", "_law_one", "_law_other"] : List Str)) (eS : X.env.scope = defScope s__law_frac) (hfn : ∀ x, X.fn x = true) (fr_abs : X.mg "abs" = none) (fr_int : X.mg "int" = none) : JSs X (defBody s__law_frac) PG.w__law_frac := by
  have hr := am.rm
  have n0 : X.N[0]? = some ("_law_top" : Str) := by rw [eN]; rfl
  have v0 : SlotOk X 0 "_law_top" := slot_of eS eN hfn rfl (.inl rfl)
  have n1 : X.N[1]? = some ("_law_bottom" : Str) := by rw [eN]; rfl
  have v1 : SlotOk X 1 "_law_bottom" := slot_of eS eN hfn rfl (.inl rfl)
  have n2 : X.N[2]? = some ("_law_one" : Str) := by rw [eN]; rfl
  have v2 : SlotOk X 2 "_law_one" := slot_of eS eN hfn rfl (.inl rfl)
  have n3 : X.N[3]? = some ("_law_other" : Str) := by rw [eN]; rfl
  have v3 : SlotOk X 3 "_law_other" := slot_of eS eN hfn rfl (.inl rfl)
  have gl_abs : Gl X "abs" := gl_of eS rfl
  have gl_int : Gl X "int" := gl_of eS rfl
  exact (js_cons (js_st hN v2 (je_bi b_abs gl_abs fr_abs RT.boot_abs (ja_cons (je_v v0) ja_nil)))
  (js_cons (js_st hN v3 (je_bi b_abs gl_abs fr_abs RT.boot_abs (ja_cons (je_v v1) ja_nil)))
  (js_cons (js_while hxe (jt_cmp o_gt (je_v v3) je_int (nomark _))
  (js_one (js_par (i := 2) (j := 3) hc hN n2 n3 (by decide) (by rw [eS]; rfl) (by rw [eS]; rfl) (ja_cons (je_v v3) (ja_cons (je_op o_mod (je_bty b_int gl_int fr_int RT.boot_int (ja_cons (je_v v2) ja_nil)) (je_bty b_int gl_int fr_int RT.boot_int (ja_cons (je_v v3) ja_nil))) ja_nil)) (swap_ok (by rw [eS]; rfl) (by rw [eS]; rfl) (by rw [eS]; rfl) (by decide) rfl rfl rfl (by decide +kernel) (by decide +kernel)))))
  (js_cons (js_if (jt_cmp o_lt (je_v v1) je_int (nomark _))
  (js_one (js_st hN v2 (je_neg (je_v v2))))
  js_nil)
  (js_one (js_ret (je_tup (ja_cons (je_op (o_fdiv am.py) (je_v v0) (je_v v2)) (ja_cons (je_op (o_fdiv am.py) (je_v v1) (je_v v2)) ja_nil)))))))))
theorem g__law_frac (KX : K.In base) (GX : base.Ns mainGlobals mg) (c : He.SaysD fa fn K) (hxb : xb K = true) (hns : BaseOk K mg base) (htr : P.given.tree = none) (hpr : PrgOk P file) (hml : el.map (fun d => mtW K d.x) = el.map ErD.val) : FnG P w K mg base "_law_frac" 1 PG.sp__law_frac [] := by
  obtain ⟨fd, F⟩ := c.def_ 15 (d := dd__law_frac) rfl
  unfold PG.sp__law_frac
  exact mkG (N := (["_law_top", "_law_bottom", "_law_one", "_law_other"] : List Str)) false hns htr F (He.glo_ok KX GX (c.fact 15 (f := .glo "_law_frac") rfl)) sc__law_frac rfl rfl (fun _ _ _ _ _ _ us hl => match us, hl with | [_, _], _ => rfl) (fun X cdv A outer s H E hX hcd am => by subst hX; exact d__law_frac am sc__law_frac.nd rfl PassesOwn.never rfl rfl (fun _ => rfl) (He.free_ok KX GX (c.fact 33 (f := .free "abs") rfl)) (He.free_ok KX GX (c.fact 32 (f := .free "int") rfl)))

theorem sc__law_add : FnScope (["_law_one", "_law_other"] : List Str) (["_law_one", "_law_other"] : List Str) (defScope s__law_add) := ⟨rfl, rfl, rfl, by decide +kernel, rfl, by decide +kernel, by decide +kernel⟩
theorem d__law_add {X : Cx} (am : Amb 1 X) (hN : X.N.Nodup) (hc : X.calm = true) (hxe : PassesOwn (model X.prog X.w) X.A X.env X.xe) (eN : X.N = (["_law_one", "_law_other"] : List Str)) (eS : X.env.scope = defScope s__law_add) (hfn : ∀ x, X.fn x = true) (G__law_frac : FnG X.prog X.w X.K X.mg X.base "_law_frac" 1 PG.sp__law_frac []) : JSs X (defBody s__law_add) PG.w__law_add_2 := by
  have hr := am.rm
  have n0 : X.N[0]? = some ("_law_one" : Str) := by rw [eN]; rfl
  have v0 : SlotOk X 0 "_law_one" := slot_of eS eN hfn rfl (.inl rfl)
  have n1 : X.N[1]? = some ("_law_other" : Str) := by rw [eN]; rfl
  have v1 : SlotOk X 1 "_law_other" := slot_of eS eN hfn rfl (.inl rfl)
  have gl__law_frac : Gl X "_law_frac" := gl_of eS rfl
  exact (js_one (js_ret (je_cg G__law_frac hr gl__law_frac (ja_cons (je_op o_addA (je_op o_mul (je_ix (je_v v0) je_int) (je_ix (je_v v1) je_int)) (je_op o_mul (je_ix (je_v v1) je_int) (je_ix (je_v v0) je_int))) (ja_cons (je_op o_mul (je_ix (je_v v0) je_int) (je_ix (je_v v1) je_int)) ja_nil)))))
theorem g__law_add (KX : K.In base) (GX : base.Ns mainGlobals mg) (c : He.SaysD fa fn K) (hxb : xb K = true) (hns : BaseOk K mg base) (htr : P.given.tree = none) (hpr : PrgOk P file) (hml : el.map (fun d => mtW K d.x) = el.map ErD.val) : FnG P w K mg base "_law_add" 2 PG.sp__law_add_2 [] := by
  obtain ⟨fd, F⟩ := c.def_ 16 (d := dd__law_add) rfl
  unfold PG.sp__law_add_2
  exact mkG (N := (["_law_one", "_law_other"] : List Str)) false hns htr F (He.glo_ok KX GX (c.fact 16 (f := .glo "_law_add") rfl)) sc__law_add rfl rfl (fun _ _ _ _ _ _ us hl => match us, hl with | [_, _], _ => rfl) (fun X cdv A outer s H E hX hcd am => by subst hX; exact d__law_add am sc__law_add.nd rfl PassesOwn.never rfl rfl (fun _ => rfl) (g__law_frac (P := P) (w := w) KX GX c hxb hns htr hpr hml))

theorem sc__law_fraction : FnScope (["_law_box_here"] : List Str) (["_law_box_here"] : List Str) (defScope s__law_fraction) := ⟨rfl, rfl, rfl, by decide +kernel, rfl, by decide +kernel, by decide +kernel⟩
theorem d__law_fraction {X : Cx} (am : Amb 1 X) (hN : X.N.Nodup) (hc : X.calm = true) (hxe : PassesOwn (model X.prog X.w) X.A X.env X.xe) (eN : X.N = (["_law_box_here"] : List Str)) (eS : X.env.scope = defScope s__law_fraction) (hfn : ∀ x, X.fn x = true) (G__law_draw : FnG X.prog X.w X.K X.mg X.base "_law_draw" 1 PG.sp__law_draw_2 []) (G__law_frac : FnG X.prog X.w X.K X.mg X.base "_law_frac" 1 PG.sp__law_frac []) : JSs X (defBody s__law_fraction) PG.w__law_fraction := by
  have hr := am.rm
  have n0 : X.N[0]? = some ("_law_box_here" : Str) := by rw [eN]; rfl
  have v0 : SlotOk X 0 "_law_box_here" := slot_of eS eN hfn rfl (.inl rfl)
  have gl__law_draw : Gl X "_law_draw" := gl_of eS rfl
  have gl__law_frac : Gl X "_law_frac" := gl_of eS rfl
  exact (js_one (js_ret (je_cg G__law_frac hr gl__law_frac (ja_cons (je_op o_sub (je_cg G__law_draw hr gl__law_draw (ja_cons (je_v v0) (ja_cons je_int ja_nil))) je_int) (ja_cons (je_ix (je_lst (ja_cons je_int (ja_cons je_int (ja_cons je_int (ja_cons je_int ja_nil))))) (je_cg G__law_draw hr gl__law_draw (ja_cons (je_v v0) (ja_cons je_int ja_nil)))) ja_nil)))))
theorem g__law_fraction (KX : K.In base) (GX : base.Ns mainGlobals mg) (c : He.SaysD fa fn K) (hxb : xb K = true) (hns : BaseOk K mg base) (htr : P.given.tree = none) (hpr : PrgOk P file) (hml : el.map (fun d => mtW K d.x) = el.map ErD.val) : FnG P w K mg base "_law_fraction" 2 PG.sp__law_fraction [] := by
  obtain ⟨fd, F⟩ := c.def_ 17 (d := dd__law_fraction) rfl
  unfold PG.sp__law_fraction
  exact mkG (N := (["_law_box_here"] : List Str)) false hns htr F (He.glo_ok KX GX (c.fact 17 (f := .glo "_law_fraction") rfl)) sc__law_fraction rfl rfl (fun _ _ _ _ _ _ us hl => match us, hl with | [_], _ => rfl) (fun X cdv A outer s H E hX hcd am => by subst hX; exact d__law_fraction am sc__law_fraction.nd rfl PassesOwn.never rfl rfl (fun _ => rfl) (g__law_draw (P := P) (w := w) KX GX c hxb hns htr hpr hml) (g__law_frac (P := P) (w := w) KX GX c hxb hns htr hpr hml))

theorem sc__law_nonzero : FnScope (["_law_box_here", "_law_value"] : List Str) (["_law_box_here"] : List Str) (defScope s__law_nonzero) := ⟨rfl, rfl, rfl, by decide +kernel, rfl, by decide +kernel, by decide +kernel⟩
theorem d__law_nonzero {X : Cx} (am : Amb 2 X) (hN : X.N.Nodup) (hc : X.calm = true) (hxe : PassesOwn (model X.prog X.w) X.A X.env X.xe) (eN : X.N = (["_law_box_here", "_law_value"] : List Str)) (eS : X.env.scope = defScope s__law_nonzero) (hfn : ∀ x, X.fn x = true) (G__law_fraction : FnG X.prog X.w X.K X.mg X.base "_law_fraction" 2 PG.sp__law_fraction []) : JSs X (defBody s__law_nonzero) PG.w__law_nonzero := by
  have hr := am.rm
  have n0 : X.N[0]? = some ("_law_box_here" : Str) := by rw [eN]; rfl
  have v0 : SlotOk X 0 "_law_box_here" := slot_of eS eN hfn rfl (.inl rfl)
  have n1 : X.N[1]? = some ("_law_value" : Str) := by rw [eN]; rfl
  have v1 : SlotOk X 1 "_law_value" := slot_of eS eN hfn rfl (.inl rfl)
  have gl__law_fraction : Gl X "_law_fraction" := gl_of eS rfl
  exact (js_cons (js_st hN v1 (je_cg G__law_fraction hr gl__law_fraction (ja_cons (je_v v0) ja_nil)))
  (js_cons (js_if (jt_cmp (o_eq hr) (je_ix (je_v v1) je_int) je_int (nomark _))
  (js_one (js_ret (je_tup (ja_cons je_int (ja_cons je_int ja_nil)))))
  js_nil)
  (js_one (js_ret (je_v v1)))))
theorem g__law_nonzero (KX : K.In base) (GX : base.Ns mainGlobals mg) (c : He.SaysD fa fn K) (hxb : xb K = true) (hns : BaseOk K mg base) (htr : P.given.tree = none) (hpr : PrgOk P file) (hml : el.map (fun d => mtW K d.x) = el.map ErD.val) : FnG P w K mg base "_law_nonzero" 3 PG.sp__law_nonzero [] := by
  obtain ⟨fd, F⟩ := c.def_ 18 (d := dd__law_nonzero) rfl
  unfold PG.sp__law_nonzero
  exact mkG (N := (["_law_box_here", "_law_value"] : List Str)) false hns htr F (He.glo_ok KX GX (c.fact 18 (f := .glo "_law_nonzero") rfl)) sc__law_nonzero rfl rfl (fun _ _ _ _ _ _ us hl => match us, hl with | [_], _ => rfl) (fun X cdv A outer s H E hX hcd am => by subst hX; exact d__law_nonzero am sc__law_nonzero.nd rfl PassesOwn.never rfl rfl (fun _ => rfl) (g__law_fraction (P := P) (w := w) KX GX c hxb hns htr hpr hml))

theorem sc__law_stop : FnScope (["_law_box_here", "_law_lower", "_law_upper", "_law_kind"] : List Str) (["_law_box_here"] : List Str) (defScope s__law_stop) := ⟨rfl, rfl, rfl, by decide +kernel, rfl, by decide +kernel, by decide +kernel⟩
theorem d__law_stop {X : Cx} (am : Amb 2 X) (hN : X.N.Nodup) (hc : X.calm = true) (hxe : PassesOwn (model X.prog X.w) X.A X.env X.xe) (eN : X.N = (["_law_box_here", "_law_lower", "_law_upper", "_law_kind"] : List Str)) (eS : X.env.scope = defScope s__law_stop) (hfn : ∀ x, X.fn x = true) (G__law_fraction : FnG X.prog X.w X.K X.mg X.base "_law_fraction" 2 PG.sp__law_fraction []) (G__law_draw : FnG X.prog X.w X.K X.mg X.base "_law_draw" 1 PG.sp__law_draw_2 []) (G__law_frac : FnG X.prog X.w X.K X.mg X.base "_law_frac" 1 PG.sp__law_frac []) (G__law_add : FnG X.prog X.w X.K X.mg X.base "_law_add" 2 PG.sp__law_add_2 []) : JSs X (defBody s__law_stop) PG.w__law_stop_2 := by
  have hr := am.rm
  have n0 : X.N[0]? = some ("_law_box_here" : Str) := by rw [eN]; rfl
  have v0 : SlotOk X 0 "_law_box_here" := slot_of eS eN hfn rfl (.inl rfl)
  have n1 : X.N[1]? = some ("_law_lower" : Str) := by rw [eN]; rfl
  have v1 : SlotOk X 1 "_law_lower" := slot_of eS eN hfn rfl (.inl rfl)
  have n2 : X.N[2]? = some ("_law_upper" : Str) := by rw [eN]; rfl
  have v2 : SlotOk X 2 "_law_upper" := slot_of eS eN hfn rfl (.inl rfl)
  have n3 : X.N[3]? = some ("_law_kind" : Str) := by rw [eN]; rfl
  have v3 : SlotOk X 3 "_law_kind" := slot_of eS eN hfn rfl (.inl rfl)
  have gl__law_fraction : Gl X "_law_fraction" := gl_of eS rfl
  have gl__law_draw : Gl X "_law_draw" := gl_of eS rfl
  have gl__law_frac : Gl X "_law_frac" := gl_of eS rfl
  have gl__law_add : Gl X "_law_add" := gl_of eS rfl
  exact (js_cons (js_st hN v1 (je_cg G__law_fraction hr gl__law_fraction (ja_cons (je_v v0) ja_nil)))
  (js_cons (js_st hN v2 (je_cg G__law_add hr gl__law_add (ja_cons (je_v v1) (ja_cons (je_cg G__law_frac hr gl__law_frac (ja_cons (je_cg G__law_draw hr gl__law_draw (ja_cons (je_v v0) (ja_cons je_int ja_nil))) (ja_cons je_int ja_nil))) ja_nil))))
  (js_cons (js_st hN v3 (je_cg G__law_draw hr gl__law_draw (ja_cons (je_v v0) (ja_cons je_int ja_nil))))
  (js_cons (js_if (jt_cmp (o_eq hr) (je_v v3) je_int (nomark _))
  (js_one (js_ret (je_tup (ja_cons je_str (ja_cons je_non (ja_cons (je_v v2) ja_nil))))))
  js_nil)
  (js_cons (js_if (jt_cmp (o_eq hr) (je_v v3) je_int (nomark _))
  (js_one (js_ret (je_tup (ja_cons je_str (ja_cons (je_v v1) (ja_cons je_non ja_nil))))))
  js_nil)
  (js_one (js_ret (je_tup (ja_cons je_str (ja_cons (je_v v1) (ja_cons (je_v v2) ja_nil)))))))))))
theorem g__law_stop (KX : K.In base) (GX : base.Ns mainGlobals mg) (c : He.SaysD fa fn K) (hxb : xb K = true) (hns : BaseOk K mg base) (htr : P.given.tree = none) (hpr : PrgOk P file) (hml : el.map (fun d => mtW K d.x) = el.map ErD.val) : FnG P w K mg base "_law_stop" 3 PG.sp__law_stop_2 [] := by
  obtain ⟨fd, F⟩ := c.def_ 19 (d := dd__law_stop) rfl
  unfold PG.sp__law_stop_2
  exact mkG (N := (["_law_box_here", "_law_lower", "_law_upper", "_law_kind"] : List Str)) false hns htr F (He.glo_ok KX GX (c.fact 19 (f := .glo "_law_stop") rfl)) sc__law_stop rfl rfl (fun _ _ _ _ _ _ us hl => match us, hl with | [_], _ => rfl) (fun X cdv A outer s H E hX hcd am => by subst hX; exact d__law_stop am sc__law_stop.nd rfl PassesOwn.never rfl rfl (fun _ => rfl) (g__law_fraction (P := P) (w := w) KX GX c hxb hns htr hpr hml) (g__law_draw (P := P) (w := w) KX GX c hxb hns htr hpr hml) (g__law_frac (P := P) (w := w) KX GX c hxb hns htr hpr hml) (g__law_add (P := P) (w := w) KX GX c hxb hns htr hpr hml))

theorem sc__law_element : FnScope (["_law_box_here", "_law_kind"] : List Str) (["_law_box_here"] : List Str) (defScope s__law_element) := ⟨rfl, rfl, rfl, by decide +kernel, rfl, by decide +kernel, by decide +kernel⟩
theorem d__law_element {X : Cx} (am : Amb 3 X) (hN : X.N.Nodup) (hc : X.calm = true) (hxe : PassesOwn (model X.prog X.w) X.A X.env X.xe) (eN : X.N = (["_law_box_here", "_law_kind"] : List Str)) (eS : X.env.scope = defScope s__law_element) (hfn : ∀ x, X.fn x = true) (G__law_draw : FnG X.prog X.w X.K X.mg X.base "_law_draw" 1 PG.sp__law_draw_2 []) (G__law_fraction : FnG X.prog X.w X.K X.mg X.base "_law_fraction" 2 PG.sp__law_fraction []) (G__law_nonzero : FnG X.prog X.w X.K X.mg X.base "_law_nonzero" 3 PG.sp__law_nonzero []) (G__law_stop : FnG X.prog X.w X.K X.mg X.base "_law_stop" 3 PG.sp__law_stop_2 []) : JSs X (defBody s__law_element) PG.w__law_element_2 := by
  have hr := am.rm
  have n0 : X.N[0]? = some ("_law_box_here" : Str) := by rw [eN]; rfl
  have v0 : SlotOk X 0 "_law_box_here" := slot_of eS eN hfn rfl (.inl rfl)
  have n1 : X.N[1]? = some ("_law_kind" : Str) := by rw [eN]; rfl
  have v1 : SlotOk X 1 "_law_kind" := slot_of eS eN hfn rfl (.inl rfl)
  have gl__law_draw : Gl X "_law_draw" := gl_of eS rfl
  have gl__law_fraction : Gl X "_law_fraction" := gl_of eS rfl
  have gl__law_nonzero : Gl X "_law_nonzero" := gl_of eS rfl
  have gl__law_stop : Gl X "_law_stop" := gl_of eS rfl
  exact (js_cons (js_st hN v1 (je_cg G__law_draw hr gl__law_draw (ja_cons (je_v v0) (ja_cons je_int ja_nil))))
  (js_cons (js_if (jt_cmp o_lt (je_v v1) je_int (nomark _))
  (js_one (js_ret (je_tup (ja_cons je_str (ja_cons (je_cg G__law_fraction hr gl__law_fraction (ja_cons (je_v v0) ja_nil)) ja_nil)))))
  js_nil)
  (js_cons (js_if (jt_cmp o_lt (je_v v1) je_int (nomark _))
  (js_one (js_ret (je_tup (ja_cons je_str (ja_cons (je_cg G__law_fraction hr gl__law_fraction (ja_cons (je_v v0) ja_nil)) (ja_cons (je_ix (je_lst (ja_cons (je_tup (ja_cons je_int (ja_cons je_int ja_nil))) (ja_cons (je_cg G__law_fraction hr gl__law_fraction (ja_cons (je_v v0) ja_nil)) ja_nil))) (je_cg G__law_draw hr gl__law_draw (ja_cons (je_v v0) (ja_cons je_int ja_nil)))) ja_nil))))))
  js_nil)
  (js_cons (js_if (jt_cmp (o_eq hr) (je_v v1) je_int (nomark _))
  (js_one (js_ret (je_tup (ja_cons je_str (ja_cons (je_cg G__law_fraction hr gl__law_fraction (ja_cons (je_v v0) ja_nil)) ja_nil)))))
  js_nil)
  (js_cons (js_if (jt_cmp (o_eq hr) (je_v v1) je_int (nomark _))
  (js_one (js_ret (je_tup (ja_cons je_str (ja_cons (je_cg G__law_nonzero hr gl__law_nonzero (ja_cons (je_v v0) ja_nil)) ja_nil)))))
  js_nil)
  (js_one (js_ret (je_cg G__law_stop hr gl__law_stop (ja_cons (je_v v0) ja_nil)))))))))
theorem g__law_element (KX : K.In base) (GX : base.Ns mainGlobals mg) (c : He.SaysD fa fn K) (hxb : xb K = true) (hns : BaseOk K mg base) (htr : P.given.tree = none) (hpr : PrgOk P file) (hml : el.map (fun d => mtW K d.x) = el.map ErD.val) : FnG P w K mg base "_law_element" 4 PG.sp__law_element_2 [] := by
  obtain ⟨fd, F⟩ := c.def_ 20 (d := dd__law_element) rfl
  unfold PG.sp__law_element_2
  exact mkG (N := (["_law_box_here", "_law_kind"] : List Str)) false hns htr F (He.glo_ok KX GX (c.fact 20 (f := .glo "_law_element") rfl)) sc__law_element rfl rfl (fun _ _ _ _ _ _ us hl => match us, hl with | [_], _ => rfl) (fun X cdv A outer s H E hX hcd am => by subst hX; exact d__law_element am sc__law_element.nd rfl PassesOwn.never rfl rfl (fun _ => rfl) (g__law_draw (P := P) (w := w) KX GX c hxb hns htr hpr hml) (g__law_fraction (P := P) (w := w) KX GX c hxb hns htr hpr hml) (g__law_nonzero (P := P) (w := w) KX GX c hxb hns htr hpr hml) (g__law_stop (P := P) (w := w) KX GX c hxb hns htr hpr hml))

theorem sc__law_train : FnScope (["_law_box_here", "_law_most", "_law_turn"] : List Str) (["_law_box_here", "_law_most"] : List Str) (defScope s__law_train) := ⟨rfl, rfl, rfl, by decide +kernel, rfl, by decide +kernel, by decide +kernel⟩
theorem d__law_train {X : Cx} (am : Amb 4 X) (hN : X.N.Nodup) (hc : X.calm = true) (hxe : PassesOwn (model X.prog X.w) X.A X.env X.xe) (eN : X.N = (["_law_box_here", "_law_most", "_law_turn"] : List Str)) (eS : X.env.scope = defScope s__law_train) (hfn : ∀ x, X.fn x = true) (fr_range : X.mg "range" = none) (G__law_draw : FnG X.prog X.w X.K X.mg X.base "_law_draw" 1 PG.sp__law_draw_2 []) (G__law_element : FnG X.prog X.w X.K X.mg X.base "_law_element" 4 PG.sp__law_element_2 []) : JSs X (defBody s__law_train) PG.w__law_train_2 := by
  have hr := am.rm
  have n0 : X.N[0]? = some ("_law_box_here" : Str) := by rw [eN]; rfl
  have v0 : SlotOk X 0 "_law_box_here" := slot_of eS eN hfn rfl (.inr rfl)
  have n1 : X.N[1]? = some ("_law_most" : Str) := by rw [eN]; rfl
  have v1 : SlotOk X 1 "_law_most" := slot_of eS eN hfn rfl (.inl rfl)
  have n2 : X.N[2]? = some ("_law_turn" : Str) := by rw [eN]; rfl
  have gl_range : Gl X "range" := gl_of eS rfl
  have gl__law_draw : Gl X "_law_draw" := gl_of eS rfl
  exact (js_one (js_ret (je_lc false (own' := [("_law_turn", 2)]) (by decide) hc hN (ji_range1 gl_range fr_range (ja_cons (je_cg G__law_draw hr gl__law_draw (ja_cons (je_v v0) (ja_cons (je_op o_addA (je_v v1) je_int) ja_nil))) ja_nil)) (blk_of eN eS (own := [("_law_turn", 2)]) (by decide +kernel)) (fun s H C cl fp => (jg_of (pg_name (i := 2) hN n2 (by first | exact .inl rfl | exact .inr rfl)))) (fun s H C cl fp => jts_nil) (fun s H C cl fp => (je_cg G__law_element hr (by rfl) (ja_cons (je_var 0 n0 (hv := vis_free (by decide +kernel))) ja_nil))))))
theorem g__law_train (KX : K.In base) (GX : base.Ns mainGlobals mg) (c : He.SaysD fa fn K) (hxb : xb K = true) (hns : BaseOk K mg base) (htr : P.given.tree = none) (hpr : PrgOk P file) (hml : el.map (fun d => mtW K d.x) = el.map ErD.val) : FnG P w K mg base "_law_train" 5 PG.sp__law_train_2 [] := by
  obtain ⟨fd, F⟩ := c.def_ 21 (d := dd__law_train) rfl
  unfold PG.sp__law_train_2
  exact mkG (N := (["_law_box_here", "_law_most", "_law_turn"] : List Str)) false hns htr F (He.glo_ok KX GX (c.fact 21 (f := .glo "_law_train") rfl)) sc__law_train rfl rfl (fun _ _ _ _ _ _ us hl => match us, hl with | [_, _], _ => rfl) (fun X cdv A outer s H E hX hcd am => by subst hX; exact d__law_train am sc__law_train.nd rfl PassesOwn.never rfl rfl (fun _ => rfl) (He.free_ok KX GX (c.fact 31 (f := .free "range") rfl)) (g__law_draw (P := P) (w := w) KX GX c hxb hns htr hpr hml) (g__law_element (P := P) (w := w) KX GX c hxb hns htr hpr hml))

theorem sc__law_same : FnScope (["_law_one", "_law_other"] : List Str) (["_law_one", "_law_other"] : List Str) (defScope s__law_same) := ⟨rfl, rfl, rfl, by decide +kernel, rfl, by decide +kernel, by decide +kernel⟩
theorem d__law_same {X : Cx} (am : Amb 0 X) (hN : X.N.Nodup) (hc : X.calm = true) (hxe : PassesOwn (model X.prog X.w) X.A X.env X.xe) (eN : X.N = (["_law_one", "_law_other"] : List Str)) (eS : X.env.scope = defScope s__law_same) (hfn : ∀ x, X.fn x = true) (fr_repr : X.mg "repr" = none) : JSs X (defBody s__law_same) PG.w__law_same := by
  have hr := am.rm
  have n0 : X.N[0]? = some ("_law_one" : Str) := by rw [eN]; rfl
  have v0 : SlotOk X 0 "_law_one" := slot_of eS eN hfn rfl (.inl rfl)
  have n1 : X.N[1]? = some ("_law_other" : Str) := by rw [eN]; rfl
  have v1 : SlotOk X 1 "_law_other" := slot_of eS eN hfn rfl (.inl rfl)
  have gl_repr : Gl X "repr" := gl_of eS rfl
  exact (js_one (js_ret (je_cmp o_eqT (je_bi (b_repr hr) gl_repr fr_repr RT.boot_repr (ja_cons (je_v v0) ja_nil)) (je_bi (b_repr hr) gl_repr fr_repr RT.boot_repr (ja_cons (je_v v1) ja_nil)) (nomark _))))
theorem g__law_same (KX : K.In base) (GX : base.Ns mainGlobals mg) (c : He.SaysD fa fn K) (hxb : xb K = true) (hns : BaseOk K mg base) (htr : P.given.tree = none) (hpr : PrgOk P file) (hml : el.map (fun d => mtW K d.x) = el.map ErD.val) : FnG P w K mg base "_law_same" 1 PG.sp__law_same [] := by
  obtain ⟨fd, F⟩ := c.def_ 22 (d := dd__law_same) rfl
  unfold PG.sp__law_same
  exact mkG (N := (["_law_one", "_law_other"] : List Str)) false hns htr F (He.glo_ok KX GX (c.fact 22 (f := .glo "_law_same") rfl)) sc__law_same rfl rfl (fun _ _ _ _ _ _ us hl => match us, hl with | [_, _], _ => rfl) (fun X cdv A outer s H E hX hcd am => by subst hX; exact d__law_same am sc__law_same.nd rfl PassesOwn.never rfl rfl (fun _ => rfl) (He.free_ok KX GX (c.fact 34 (f := .free "repr") rfl)))

theorem sc__law_tried : FnScope (["_law_bench", "_law_operation_here", "e"] : List Str) (["_law_bench", "_law_operation_here"] : List Str) (defScope s__law_tried) := ⟨rfl, rfl, rfl, by decide +kernel, rfl, by decide +kernel, by decide +kernel⟩
theorem d__law_tried {X : Cx} {Wx : WX} (tk : Takes X Wx) (am : Amb 3 X) (hN : X.N.Nodup) (hc : X.calm = true) (hxe : PassesOwn (model X.prog X.w) X.A X.env X.xe) (eN : X.N = (["_law_bench", "_law_operation_here", "e"] : List Str)) (eS : X.env.scope = defScope s__law_tried) (hfn : ∀ x, X.fn x = true) (hsk : X.stack = X.env :: X.outer) (hfl : X.env.frame = some X.env.locals) (O_Bench_put : MthO X.prog X.w X.K X.mg X.base "Bench" "put" 3 PG.sp_Bench_put) (O_Bench_take : MthO X.prog X.w X.K X.mg X.base "Bench" "take" 3 PG.sp_Bench_take) (O_Bench_exchange : MthO X.prog X.w X.K X.mg X.base "Bench" "exchange" 3 PG.sp_Bench_exchange) (O_Bench_undo : MthO X.prog X.w X.K X.mg X.base "Bench" "undo" 1 PG.sp_Bench_undo) (E_exmB_NoSuchPosition_NoSuchPosition : ExmG X.K X.mg "NoSuchPosition" "NoSuchPosition") (E_exnB_NoSuchElement_NoSuchPosition : ExnG X.K X.mg "NoSuchElement" "NoSuchPosition") (E_exnB_TrainFull_NoSuchPosition : ExnG X.K X.mg "TrainFull" "NoSuchPosition") (E_exuB_NoSuchPosition : ExcU X.K "NoSuchPosition") (E_exmB_NoSuchElement_NoSuchElement : ExmG X.K X.mg "NoSuchElement" "NoSuchElement") (E_exnB_TrainFull_NoSuchElement : ExnG X.K X.mg "TrainFull" "NoSuchElement") (E_exuB_NoSuchElement : ExcU X.K "NoSuchElement") (E_exmB_TrainFull_TrainFull : ExmG X.K X.mg "TrainFull" "TrainFull") : JSOs X Wx (defBody s__law_tried) PG.w__law_tried := by
  have hr := am.rm
  have n0 : X.N[0]? = some ("_law_bench" : Str) := by rw [eN]; rfl
  have v0 : SlotOk X 0 "_law_bench" := slot_of eS eN hfn rfl (.inl rfl)
  have n1 : X.N[1]? = some ("_law_operation_here" : Str) := by rw [eN]; rfl
  have v1 : SlotOk X 1 "_law_operation_here" := slot_of eS eN hfn rfl (.inl rfl)
  have n2 : X.N[2]? = some ("e" : Str) := by rw [eN]; rfl
  have v2 : SlotOk X 2 "e" := slot_of eS eN hfn rfl (.inl rfl)
  have gl_NoSuchPosition : Gl X "NoSuchPosition" := gl_of eS rfl
  have gl_NoSuchElement : Gl X "NoSuchElement" := gl_of eS rfl
  have gl_TrainFull : Gl X "TrainFull" := gl_of eS rfl
  exact (so_one (so_tryM hsk hfl hN tk
  (fun Wx pn xe tk po => by have n0 : (X.tr pn xe).N[0]? = some ("_law_bench" : Str) := n0; have v0 : SlotOk (X.tr pn xe) 0 "_law_bench" := v0.tr pn xe; have n1 : (X.tr pn xe).N[1]? = some ("_law_operation_here" : Str) := n1; have v1 : SlotOk (X.tr pn xe) 1 "_law_operation_here" := v1.tr pn xe; have n2 : (X.tr pn xe).N[2]? = some ("e" : Str) := n2; have v2 : SlotOk (X.tr pn xe) 2 "e" := v2.tr pn xe; have gl_NoSuchPosition : Gl (X.tr pn xe) "NoSuchPosition" := gl_NoSuchPosition; have gl_NoSuchElement : Gl (X.tr pn xe) "NoSuchElement" := gl_NoSuchElement; have gl_TrainFull : Gl (X.tr pn xe) "TrainFull" := gl_TrainFull; have am : Amb 3 (X.tr pn xe) := ⟨am.rm, am.py, am.tb⟩; have hr : GRoom 3 (X.tr pn xe).A := am.rm; have hxe := po; have eN : (X.tr pn xe).N = _ := eN; have eS : (X.tr pn xe).env.scope = _ := eS;  exact (so_cons (so_if (to_of (fun os => by letI : Ghost := gho X.K os; exact (jt_cmp (o_eq hr) (je_ix (je_v v1) je_int) je_str (nomark _)))) (so_one (so_ret (eo_tup (ao_cons (eo_of (fun os => by letI : Ghost := gho X.K os; exact je_str)) (ao_cons (eo_meth O_Bench_put hr tk (eo_of (fun os => by letI : Ghost := gho X.K os; exact (je_v v0))) (ao_of (fun os => by letI : Ghost := gho X.K os; exact (ja_cons (je_ix (je_v v1) je_int) (ja_cons (je_ix (je_v v1) je_int) ja_nil))))) ao_nil))))) so_nil) (so_cons (so_if (to_of (fun os => by letI : Ghost := gho X.K os; exact (jt_cmp (o_eq hr) (je_ix (je_v v1) je_int) je_str (nomark _)))) (so_one (so_ret (eo_tup (ao_cons (eo_of (fun os => by letI : Ghost := gho X.K os; exact je_str)) (ao_cons (eo_meth O_Bench_take hr tk (eo_of (fun os => by letI : Ghost := gho X.K os; exact (je_v v0))) (ao_of (fun os => by letI : Ghost := gho X.K os; exact (ja_cons (je_ix (je_v v1) je_int) ja_nil)))) ao_nil))))) so_nil) (so_cons (so_if (to_of (fun os => by letI : Ghost := gho X.K os; exact (jt_cmp (o_eq hr) (je_ix (je_v v1) je_int) je_str (nomark _)))) (so_one (so_ret (eo_tup (ao_cons (eo_of (fun os => by letI : Ghost := gho X.K os; exact je_str)) (ao_cons (eo_meth O_Bench_exchange hr tk (eo_of (fun os => by letI : Ghost := gho X.K os; exact (je_v v0))) (ao_of (fun os => by letI : Ghost := gho X.K os; exact (ja_cons (je_ix (je_v v1) je_int) (ja_cons (je_ix (je_v v1) je_int) ja_nil))))) ao_nil))))) so_nil) (so_one (so_ret (eo_tup (ao_cons (eo_of (fun os => by letI : Ghost := gho X.K os; exact je_str)) (ao_cons (eo_meth0 O_Bench_undo hr tk (eo_of (fun os => by letI : Ghost := gho X.K os; exact (je_v v0)))) ao_nil)))))))))
  (.as ⟨gl_NoSuchPosition, by decide, .inl (Exists.choose_spec E_exmB_NoSuchPosition_NoSuchPosition).1⟩ n2 (by show X.env.scope.names.lookup _ = _; rw [eS]; rfl) (fun x t hm v hv => by (cases List.mem_singleton.mp hm; exact ExmG.at E_exmB_NoSuchPosition_NoSuchPosition (Exists.choose_spec E_exmB_NoSuchPosition_NoSuchPosition).1 v hv)) (fun p hp => by (rcases List.mem_cons.mp hp with e | hp; (subst e; intro x t hm v hv; (cases List.mem_singleton.mp hm; exact ExnG.at E_exnB_NoSuchElement_NoSuchPosition (Exists.choose_spec E_exmB_NoSuchPosition_NoSuchPosition).1 v hv)); (rcases List.mem_cons.mp hp with e | hp; (subst e; intro x t hm v hv; (cases List.mem_singleton.mp hm; exact ExnG.at E_exnB_TrainFull_NoSuchPosition (Exists.choose_spec E_exmB_NoSuchPosition_NoSuchPosition).1 v hv)); (cases hp)))) (fun a bd oe pn x t v os hm hv hz hf => by letI : Ghost := gho X.K os; have n0 : (X.suite a ((a, oe) :: pn)).N[0]? = some ("_law_bench" : Str) := n0; have v0 : SlotOk (X.suite a ((a, oe) :: pn)) 0 "_law_bench" := v0.su a _; have n1 : (X.suite a ((a, oe) :: pn)).N[1]? = some ("_law_operation_here" : Str) := n1; have v1 : SlotOk (X.suite a ((a, oe) :: pn)) 1 "_law_operation_here" := v1.su a _; have n2 : (X.suite a ((a, oe) :: pn)).N[2]? = some ("e" : Str) := n2; have v2 : SlotOk (X.suite a ((a, oe) :: pn)) 2 "e" := v2.su a _; have gl_NoSuchPosition : Gl (X.suite a ((a, oe) :: pn)) "NoSuchPosition" := gl_NoSuchPosition; have gl_NoSuchElement : Gl (X.suite a ((a, oe) :: pn)) "NoSuchElement" := gl_NoSuchElement; have gl_TrainFull : Gl (X.suite a ((a, oe) :: pn)) "TrainFull" := gl_TrainFull; have hu : (X.suite a ((a, oe) :: pn)).A.units + 64 < cLine := hr.room.units;  (cases List.mem_singleton.mp hm; exact (js_one (js_ret (je_tup (ja_cons je_str (ja_cons (je_xf E_exuB_NoSuchPosition hv hz hf rfl n2 v2.vis) ja_nil))))))) (.as ⟨gl_NoSuchElement, by decide, .inl (Exists.choose_spec E_exmB_NoSuchElement_NoSuchElement).1⟩ n2 (by show X.env.scope.names.lookup _ = _; rw [eS]; rfl) (fun x t hm v hv => by (cases List.mem_singleton.mp hm; exact ExmG.at E_exmB_NoSuchElement_NoSuchElement (Exists.choose_spec E_exmB_NoSuchElement_NoSuchElement).1 v hv)) (fun p hp => by (rcases List.mem_cons.mp hp with e | hp; (subst e; intro x t hm v hv; (cases List.mem_singleton.mp hm; exact ExnG.at E_exnB_TrainFull_NoSuchElement (Exists.choose_spec E_exmB_NoSuchElement_NoSuchElement).1 v hv)); (cases hp))) (fun a bd oe pn x t v os hm hv hz hf => by letI : Ghost := gho X.K os; have n0 : (X.suite a ((a, oe) :: pn)).N[0]? = some ("_law_bench" : Str) := n0; have v0 : SlotOk (X.suite a ((a, oe) :: pn)) 0 "_law_bench" := v0.su a _; have n1 : (X.suite a ((a, oe) :: pn)).N[1]? = some ("_law_operation_here" : Str) := n1; have v1 : SlotOk (X.suite a ((a, oe) :: pn)) 1 "_law_operation_here" := v1.su a _; have n2 : (X.suite a ((a, oe) :: pn)).N[2]? = some ("e" : Str) := n2; have v2 : SlotOk (X.suite a ((a, oe) :: pn)) 2 "e" := v2.su a _; have gl_NoSuchPosition : Gl (X.suite a ((a, oe) :: pn)) "NoSuchPosition" := gl_NoSuchPosition; have gl_NoSuchElement : Gl (X.suite a ((a, oe) :: pn)) "NoSuchElement" := gl_NoSuchElement; have gl_TrainFull : Gl (X.suite a ((a, oe) :: pn)) "TrainFull" := gl_TrainFull; have hu : (X.suite a ((a, oe) :: pn)).A.units + 64 < cLine := hr.room.units;  (cases List.mem_singleton.mp hm; exact (js_one (js_ret (je_tup (ja_cons je_str (ja_cons (je_xf E_exuB_NoSuchElement hv hz hf rfl n2 v2.vis) ja_nil))))))) (.only ⟨gl_TrainFull, by decide, .inl (Exists.choose_spec E_exmB_TrainFull_TrainFull).1⟩ (fun x t hm v hv => by (cases List.mem_singleton.mp hm; exact ExmG.at E_exmB_TrainFull_TrainFull (Exists.choose_spec E_exmB_TrainFull_TrainFull).1 v hv)) (fun p hp => by (cases hp)) (fun a bd oe pn x t os hm => by letI : Ghost := gho X.K os; have n0 : (X.suite a ((a, oe) :: pn)).N[0]? = some ("_law_bench" : Str) := n0; have v0 : SlotOk (X.suite a ((a, oe) :: pn)) 0 "_law_bench" := v0.su a _; have n1 : (X.suite a ((a, oe) :: pn)).N[1]? = some ("_law_operation_here" : Str) := n1; have v1 : SlotOk (X.suite a ((a, oe) :: pn)) 1 "_law_operation_here" := v1.su a _; have n2 : (X.suite a ((a, oe) :: pn)).N[2]? = some ("e" : Str) := n2; have v2 : SlotOk (X.suite a ((a, oe) :: pn)) 2 "e" := v2.su a _; have gl_NoSuchPosition : Gl (X.suite a ((a, oe) :: pn)) "NoSuchPosition" := gl_NoSuchPosition; have gl_NoSuchElement : Gl (X.suite a ((a, oe) :: pn)) "NoSuchElement" := gl_NoSuchElement; have gl_TrainFull : Gl (X.suite a ((a, oe) :: pn)) "TrainFull" := gl_TrainFull; have hu : (X.suite a ((a, oe) :: pn)).A.units + 64 < cLine := hr.room.units;  (cases List.mem_singleton.mp hm; exact (js_one (js_ret (je_tup (ja_cons je_str ja_nil)))))) .nil)))))
theorem o__law_tried (KX : K.In base) (GX : base.Ns mainGlobals mg) (c : He.SaysD fa fn K) (hxb : xb K = true) (hns : BaseOk K mg base) (htr : P.given.tree = none) (hpr : PrgOk P file) (hml : el.map (fun d => mtW K d.x) = el.map ErD.val) : FnO P w K mg base "_law_tried" 4 PG.sp__law_tried := by
  obtain ⟨fd, F⟩ := c.def_ 23 (d := dd__law_tried) rfl
  unfold PG.sp__law_tried
  exact mkO (N := (["_law_bench", "_law_operation_here", "e"] : List Str)) hns htr F (He.glo_ok KX GX (c.fact 23 (f := .glo "_law_tried") rfl)) sc__law_tried rfl rfl (by decide) (fun _ _ _ _ _ _ us hl => match us, hl with | [_, _], _ => rfl) (fun X Wx cdv A outer s H E hX tk hcd am => by subst hX; exact d__law_tried tk am sc__law_tried.nd rfl (passes_of rfl) rfl rfl (fun _ => rfl) rfl rfl (o_Bench_put (P := P) (w := w) KX GX c hxb hns htr hpr hml) (o_Bench_take (P := P) (w := w) KX GX c hxb hns htr hpr hml) (o_Bench_exchange (P := P) (w := w) KX GX c hxb hns htr hpr hml) (o_Bench_undo (P := P) (w := w) KX GX c hxb hns htr hpr hml) (e_exmB_NoSuchPosition_NoSuchPosition KX GX hxb) (e_exnB_NoSuchElement_NoSuchPosition KX GX hxb) (e_exnB_TrainFull_NoSuchPosition KX GX hxb) (e_exuB_NoSuchPosition hxb) (e_exmB_NoSuchElement_NoSuchElement KX GX hxb) (e_exnB_TrainFull_NoSuchElement KX GX hxb) (e_exuB_NoSuchElement hxb) (e_exmB_TrainFull_TrainFull KX GX hxb))
theorem sc__law_done : FnScope (["_law_rows", "_law_operation_here", "_law_train_here", "_law_index", "_law_more"] : List Str) (["_law_rows", "_law_operation_here"] : List Str) (defScope s__law_done) := ⟨rfl, rfl, rfl, by decide +kernel, rfl, by decide +kernel, by decide +kernel⟩
theorem d__law_done {X : Cx} (am : Amb 0 X) (hN : X.N.Nodup) (hc : X.calm = true) (hxe : PassesOwn (model X.prog X.w) X.A X.env X.xe) (eN : X.N = (["_law_rows", "_law_operation_here", "_law_train_here", "_law_index", "_law_more"] : List Str)) (eS : X.env.scope = defScope s__law_done) (hfn : ∀ x, X.fn x = true) (fr_len : X.mg "len" = none) (fr_int : X.mg "int" = none) : JSs X (defBody s__law_done) PG.w__law_done := by
  have hr := am.rm
  have n0 : X.N[0]? = some ("_law_rows" : Str) := by rw [eN]; rfl
  have v0 : SlotOk X 0 "_law_rows" := slot_of eS eN hfn rfl (.inl rfl)
  have n1 : X.N[1]? = some ("_law_operation_here" : Str) := by rw [eN]; rfl
  have v1 : SlotOk X 1 "_law_operation_here" := slot_of eS eN hfn rfl (.inl rfl)
  have n2 : X.N[2]? = some ("_law_train_here" : Str) := by rw [eN]; rfl
  have v2 : SlotOk X 2 "_law_train_here" := slot_of eS eN hfn rfl (.inl rfl)
  have n3 : X.N[3]? = some ("_law_index" : Str) := by rw [eN]; rfl
  have v3 : SlotOk X 3 "_law_index" := slot_of eS eN hfn rfl (.inl rfl)
  have n4 : X.N[4]? = some ("_law_more" : Str) := by rw [eN]; rfl
  have v4 : SlotOk X 4 "_law_more" := slot_of eS eN hfn rfl (.inl rfl)
  have gl_len : Gl X "len" := gl_of eS rfl
  have gl_int : Gl X "int" := gl_of eS rfl
  exact (js_cons (js_st hN v2 (je_ix (je_v v0) (je_neg je_int)))
  (js_cons (js_if (jt_cmp (o_eq hr) (je_ix (je_v v1) je_int) je_str (nomark _))
  (js_cons (js_if (jt_cmp (o_eq hr) (je_bi b_len gl_len fr_len RT.boot_len (ja_cons (je_v v0) ja_nil)) je_int (nomark _))
  (js_one (js_ret (je_lst (ja_cons (je_tup (ja_cons je_str (ja_cons je_bl ja_nil))) (ja_cons (je_v v0) ja_nil)))))
  js_nil)
  (js_one (js_ret (je_lst (ja_cons (je_tup (ja_cons je_str (ja_cons je_bl ja_nil))) (ja_cons (je_sl false (je_v v0) jo_none (jo_some (je_neg je_int))) ja_nil))))))
  js_nil)
  (js_cons (js_st hN v3 (je_ix (je_v v1) je_int))
  (js_cons (js_if (jt_cmp (o_eq hr) (je_ix (je_v v1) je_int) je_str (nomark _))
  (js_cons (js_if (jt_not (jt_chain op_le op_le je_int (je_v v3) (je_bi b_len gl_len fr_len RT.boot_len (ja_cons (je_v v2) ja_nil))))
  (js_one (js_ret (je_lst (ja_cons (je_tup (ja_cons je_str (ja_cons (je_v v3) ja_nil))) (ja_cons (je_v v0) ja_nil)))))
  js_nil)
  (js_cons (js_if (jt_cmp (o_eq hr) (je_bi b_len gl_len fr_len RT.boot_len (ja_cons (je_v v2) ja_nil)) je_int (nomark _))
  (js_one (js_ret (je_lst (ja_cons (je_tup (ja_cons je_str ja_nil)) (ja_cons (je_v v0) ja_nil)))))
  js_nil)
  (js_one (js_ret (je_lst (ja_cons (je_tup (ja_cons je_str (ja_cons (je_op o_addA (je_bi b_len gl_len fr_len RT.boot_len (ja_cons (je_v v2) ja_nil)) je_int) ja_nil))) (ja_cons (je_op o_addA (je_v v0) (je_lst (ja_cons (je_op o_addA (je_op o_addA (je_sl false (je_v v2) jo_none (jo_some (je_v v3))) (je_lst (ja_cons (je_ix (je_v v1) je_int) ja_nil))) (je_sl false (je_v v2) (jo_some (je_v v3)) jo_none)) ja_nil))) ja_nil)))))))
  js_nil)
  (js_cons (js_if (jt_not (jt_chain op_le op_lt je_int (je_v v3) (je_bi b_len gl_len fr_len RT.boot_len (ja_cons (je_v v2) ja_nil))))
  (js_one (js_ret (je_lst (ja_cons (je_tup (ja_cons je_str (ja_cons (je_v v3) ja_nil))) (ja_cons (je_v v0) ja_nil)))))
  js_nil)
  (js_cons (js_st hN v4 (je_ix (je_lst (ja_cons (je_lst ja_nil) (ja_cons (je_lst (ja_cons (je_ix (je_v v1) (je_neg je_int)) ja_nil)) ja_nil))) (je_bty b_int gl_int fr_int RT.boot_int (ja_cons (je_cmp (o_eq hr) (je_ix (je_v v1) je_int) je_str (nomark _)) ja_nil))))
  (js_one (js_ret (je_lst (ja_cons (je_tup (ja_cons je_str (ja_cons (je_ix (je_v v2) (je_v v3)) ja_nil))) (ja_cons (je_op o_addA (je_v v0) (je_lst (ja_cons (je_op o_addA (je_op o_addA (je_sl false (je_v v2) jo_none (jo_some (je_v v3))) (je_v v4)) (je_sl false (je_v v2) (jo_some (je_op o_addA (je_v v3) je_int)) jo_none)) ja_nil))) ja_nil)))))))))))
theorem g__law_done (KX : K.In base) (GX : base.Ns mainGlobals mg) (c : He.SaysD fa fn K) (hxb : xb K = true) (hns : BaseOk K mg base) (htr : P.given.tree = none) (hpr : PrgOk P file) (hml : el.map (fun d => mtW K d.x) = el.map ErD.val) : FnG P w K mg base "_law_done" 1 PG.sp__law_done [] := by
  obtain ⟨fd, F⟩ := c.def_ 24 (d := dd__law_done) rfl
  unfold PG.sp__law_done
  exact mkG (N := (["_law_rows", "_law_operation_here", "_law_train_here", "_law_index", "_law_more"] : List Str)) false hns htr F (He.glo_ok KX GX (c.fact 24 (f := .glo "_law_done") rfl)) sc__law_done rfl rfl (fun _ _ _ _ _ _ us hl => match us, hl with | [_, _], _ => rfl) (fun X cdv A outer s H E hX hcd am => by subst hX; exact d__law_done am sc__law_done.nd rfl PassesOwn.never rfl rfl (fun _ => rfl) (He.free_ok KX GX (c.fact 29 (f := .free "len") rfl)) (He.free_ok KX GX (c.fact 32 (f := .free "int") rfl)))

theorem sc__law_operation : FnScope (["_law_box_here", "_law_many", "_law_kind", "_law_index"] : List Str) (["_law_box_here", "_law_many"] : List Str) (defScope s__law_operation) := ⟨rfl, rfl, rfl, by decide +kernel, rfl, by decide +kernel, by decide +kernel⟩
theorem d__law_operation {X : Cx} (am : Amb 4 X) (hN : X.N.Nodup) (hc : X.calm = true) (hxe : PassesOwn (model X.prog X.w) X.A X.env X.xe) (eN : X.N = (["_law_box_here", "_law_many", "_law_kind", "_law_index"] : List Str)) (eS : X.env.scope = defScope s__law_operation) (hfn : ∀ x, X.fn x = true) (G__law_draw : FnG X.prog X.w X.K X.mg X.base "_law_draw" 1 PG.sp__law_draw_2 []) (G__law_element : FnG X.prog X.w X.K X.mg X.base "_law_element" 4 PG.sp__law_element_2 []) : JSs X (defBody s__law_operation) PG.w__law_operation := by
  have hr := am.rm
  have n0 : X.N[0]? = some ("_law_box_here" : Str) := by rw [eN]; rfl
  have v0 : SlotOk X 0 "_law_box_here" := slot_of eS eN hfn rfl (.inl rfl)
  have n1 : X.N[1]? = some ("_law_many" : Str) := by rw [eN]; rfl
  have v1 : SlotOk X 1 "_law_many" := slot_of eS eN hfn rfl (.inl rfl)
  have n2 : X.N[2]? = some ("_law_kind" : Str) := by rw [eN]; rfl
  have v2 : SlotOk X 2 "_law_kind" := slot_of eS eN hfn rfl (.inl rfl)
  have n3 : X.N[3]? = some ("_law_index" : Str) := by rw [eN]; rfl
  have v3 : SlotOk X 3 "_law_index" := slot_of eS eN hfn rfl (.inl rfl)
  have gl__law_draw : Gl X "_law_draw" := gl_of eS rfl
  have gl__law_element : Gl X "_law_element" := gl_of eS rfl
  exact (js_cons (js_st hN v2 (je_cg G__law_draw hr gl__law_draw (ja_cons (je_v v0) (ja_cons je_int ja_nil))))
  (js_cons (js_st hN v3 (je_cg G__law_draw hr gl__law_draw (ja_cons (je_v v0) (ja_cons (je_op o_addA (je_v v1) je_int) ja_nil))))
  (js_cons (js_if (jt_cmp (o_eq hr) (je_cg G__law_draw hr gl__law_draw (ja_cons (je_v v0) (ja_cons je_int ja_nil))) je_int (nomark _))
  (js_one (js_st hN v3 (je_ix (je_lst (ja_cons (je_neg je_int) (ja_cons (je_op o_addA (je_v v1) je_int) (ja_cons (je_v v1) (ja_cons je_int ja_nil))))) (je_cg G__law_draw hr gl__law_draw (ja_cons (je_v v0) (ja_cons je_int ja_nil))))))
  js_nil)
  (js_cons (js_if (jt_cmp o_lt (je_v v2) je_int (nomark _))
  (js_one (js_ret (je_tup (ja_cons je_str (ja_cons (je_v v3) (ja_cons (je_cg G__law_element hr gl__law_element (ja_cons (je_v v0) ja_nil)) ja_nil))))))
  js_nil)
  (js_cons (js_if (jt_cmp o_lt (je_v v2) je_int (nomark _))
  (js_one (js_ret (je_tup (ja_cons je_str (ja_cons (je_v v3) ja_nil)))))
  js_nil)
  (js_cons (js_if (jt_cmp o_lt (je_v v2) je_int (nomark _))
  (js_one (js_ret (je_tup (ja_cons je_str (ja_cons (je_v v3) (ja_cons (je_cg G__law_element hr gl__law_element (ja_cons (je_v v0) ja_nil)) ja_nil))))))
  js_nil)
  (js_one (js_ret (je_tup (ja_cons je_str ja_nil))))))))))
theorem g__law_operation (KX : K.In base) (GX : base.Ns mainGlobals mg) (c : He.SaysD fa fn K) (hxb : xb K = true) (hns : BaseOk K mg base) (htr : P.given.tree = none) (hpr : PrgOk P file) (hml : el.map (fun d => mtW K d.x) = el.map ErD.val) : FnG P w K mg base "_law_operation" 5 PG.sp__law_operation [] := by
  obtain ⟨fd, F⟩ := c.def_ 25 (d := dd__law_operation) rfl
  unfold PG.sp__law_operation
  exact mkG (N := (["_law_box_here", "_law_many", "_law_kind", "_law_index"] : List Str)) false hns htr F (He.glo_ok KX GX (c.fact 25 (f := .glo "_law_operation") rfl)) sc__law_operation rfl rfl (fun _ _ _ _ _ _ us hl => match us, hl with | [_, _], _ => rfl) (fun X cdv A outer s H E hX hcd am => by subst hX; exact d__law_operation am sc__law_operation.nd rfl PassesOwn.never rfl rfl (fun _ => rfl) (g__law_draw (P := P) (w := w) KX GX c hxb hns htr hpr hml) (g__law_element (P := P) (w := w) KX GX c hxb hns htr hpr hml))

theorem sc__law_right : FnScope (["_law_bench", "_law_rows"] : List Str) (["_law_bench", "_law_rows"] : List Str) (defScope s__law_right) := ⟨rfl, rfl, rfl, by decide +kernel, rfl, by decide +kernel, by decide +kernel⟩
theorem d__law_right {X : Cx} {Wx : WX} (tk : Takes X Wx) (am : Amb 1 X) (hN : X.N.Nodup) (hc : X.calm = true) (hxe : PassesOwn (model X.prog X.w) X.A X.env X.xe) (eN : X.N = (["_law_bench", "_law_rows"] : List Str)) (eS : X.env.scope = defScope s__law_right) (hfn : ∀ x, X.fn x = true) (hsk : X.stack = X.env :: X.outer) (hfl : X.env.frame = some X.env.locals) (fr_len : X.mg "len" = none) (G__law_same : FnG X.prog X.w X.K X.mg X.base "_law_same" 1 PG.sp__law_same []) (O_Bench_history : MthO X.prog X.w X.K X.mg X.base "Bench" "history" 1 PG.sp_Bench_history) (O_Bench_operations : MthO X.prog X.w X.K X.mg X.base "Bench" "operations" 1 PG.sp_Bench_operations) (O_Bench_train : MthO X.prog X.w X.K X.mg X.base "Bench" "train" 1 PG.sp_Bench_train) : JSOs X Wx (defBody s__law_right) PG.w__law_right := by
  have hr := am.rm
  have n0 : X.N[0]? = some ("_law_bench" : Str) := by rw [eN]; rfl
  have v0 : SlotOk X 0 "_law_bench" := slot_of eS eN hfn rfl (.inl rfl)
  have n1 : X.N[1]? = some ("_law_rows" : Str) := by rw [eN]; rfl
  have v1 : SlotOk X 1 "_law_rows" := slot_of eS eN hfn rfl (.inl rfl)
  have gl__law_same : Gl X "_law_same" := gl_of eS rfl
  have gl_len : Gl X "len" := gl_of eS rfl
  exact (so_one (so_ret (eo_call G__law_same.up hr gl__law_same tk (ao_cons (eo_lst (ao_cons (eo_meth0 O_Bench_train hr tk (eo_of (fun os => by letI : Ghost := gho X.K os; exact (je_v v0)))) (ao_cons (eo_meth0 O_Bench_operations hr tk (eo_of (fun os => by letI : Ghost := gho X.K os; exact (je_v v0)))) (ao_cons (eo_meth0 O_Bench_history hr tk (eo_of (fun os => by letI : Ghost := gho X.K os; exact (je_v v0)))) ao_nil)))) (ao_cons (eo_of (fun os => by letI : Ghost := gho X.K os; exact (je_lst (ja_cons (je_ix (je_v v1) (je_neg je_int)) (ja_cons (je_op o_sub (je_bi b_len gl_len fr_len RT.boot_len (ja_cons (je_v v1) ja_nil)) je_int) (ja_cons (je_sl false (je_v v1) (jo_some je_int) jo_none) ja_nil)))))) ao_nil)))))
theorem o__law_right (KX : K.In base) (GX : base.Ns mainGlobals mg) (c : He.SaysD fa fn K) (hxb : xb K = true) (hns : BaseOk K mg base) (htr : P.given.tree = none) (hpr : PrgOk P file) (hml : el.map (fun d => mtW K d.x) = el.map ErD.val) : FnO P w K mg base "_law_right" 2 PG.sp__law_right := by
  obtain ⟨fd, F⟩ := c.def_ 26 (d := dd__law_right) rfl
  unfold PG.sp__law_right
  exact mkO (N := (["_law_bench", "_law_rows"] : List Str)) hns htr F (He.glo_ok KX GX (c.fact 26 (f := .glo "_law_right") rfl)) sc__law_right rfl rfl (by decide) (fun _ _ _ _ _ _ us hl => match us, hl with | [_, _], _ => rfl) (fun X Wx cdv A outer s H E hX tk hcd am => by subst hX; exact d__law_right tk am sc__law_right.nd rfl (passes_of rfl) rfl rfl (fun _ => rfl) rfl rfl (He.free_ok KX GX (c.fact 29 (f := .free "len") rfl)) (g__law_same (P := P) (w := w) KX GX c hxb hns htr hpr hml) (o_Bench_history (P := P) (w := w) KX GX c hxb hns htr hpr hml) (o_Bench_operations (P := P) (w := w) KX GX c hxb hns htr hpr hml) (o_Bench_train (P := P) (w := w) KX GX c hxb hns htr hpr hml))
theorem sc__law_refused : FnScope (["_law_train_here"] : List Str) (["_law_train_here"] : List Str) (defScope s__law_refused) := ⟨rfl, rfl, rfl, by decide +kernel, rfl, by decide +kernel, by decide +kernel⟩
theorem d__law_refused {X : Cx} {Wx : WX} (tk : Takes X Wx) (am : Amb 4 X) (hN : X.N.Nodup) (hc : X.calm = true) (hxe : PassesOwn (model X.prog X.w) X.A X.env X.xe) (eN : X.N = (["_law_train_here"] : List Str)) (eS : X.env.scope = defScope s__law_refused) (hfn : ∀ x, X.fn x = true) (hsk : X.stack = X.env :: X.outer) (hfl : X.env.frame = some X.env.locals) (O_Bench___init__ : MkO X.prog X.w X.K X.mg X.base "Bench" 3 PG.sp_Bench___init__) (E_exmB_TrainFull_TrainFull : ExmG X.K X.mg "TrainFull" "TrainFull") : JSOs X Wx (defBody s__law_refused) PG.w__law_refused := by
  have hr := am.rm
  have n0 : X.N[0]? = some ("_law_train_here" : Str) := by rw [eN]; rfl
  have v0 : SlotOk X 0 "_law_train_here" := slot_of eS eN hfn rfl (.inl rfl)
  have gl_Bench : Gl X "Bench" := gl_of eS rfl
  have gl_TrainFull : Gl X "TrainFull" := gl_of eS rfl
  exact (so_cons (so_try0 hsk hfl tk gl_TrainFull (Exists.choose_spec E_exmB_TrainFull_TrainFull).1 (by decide)
  (fun x t hm v hv => by (cases List.mem_singleton.mp hm; exact (ExmG.at E_exmB_TrainFull_TrainFull (Exists.choose_spec E_exmB_TrainFull_TrainFull).1 v hv)))
  (fun Wx pn xe tk po => by have n0 : (X.tr pn xe).N[0]? = some ("_law_train_here" : Str) := n0; have v0 : SlotOk (X.tr pn xe) 0 "_law_train_here" := v0.tr pn xe; have gl_Bench : Gl (X.tr pn xe) "Bench" := gl_Bench; have gl_TrainFull : Gl (X.tr pn xe) "TrainFull" := gl_TrainFull; have am : Amb 4 (X.tr pn xe) := ⟨am.rm, am.py, am.tb⟩; have hr : GRoom 4 (X.tr pn xe).A := am.rm; have hxe := po; have eN : (X.tr pn xe).N = _ := eN; have eS : (X.tr pn xe).env.scope = _ := eS;  exact (so_one (so_do (eo_make O_Bench___init__ hr gl_Bench tk (ao_of (fun os => by letI : Ghost := gho X.K os; exact (ja_cons (je_v v0) ja_nil)))))))
  (fun a oe pn x t os hm => by letI : Ghost := gho X.K os; have n0 : (X.suite a ((a, oe) :: pn)).N[0]? = some ("_law_train_here" : Str) := n0; have v0 : SlotOk (X.suite a ((a, oe) :: pn)) 0 "_law_train_here" := v0.su a _; have gl_Bench : Gl (X.suite a ((a, oe) :: pn)) "Bench" := gl_Bench; have gl_TrainFull : Gl (X.suite a ((a, oe) :: pn)) "TrainFull" := gl_TrainFull; have hu : (X.suite a ((a, oe) :: pn)).A.units + 64 < cLine := hr.room.units;  (cases List.mem_singleton.mp hm; exact (js_one (js_ret je_bl)))))
  (so_one (so_of (fun os => by letI : Ghost := gho X.K os; exact (js_ret je_bl)))))
theorem o__law_refused (KX : K.In base) (GX : base.Ns mainGlobals mg) (c : He.SaysD fa fn K) (hxb : xb K = true) (hns : BaseOk K mg base) (htr : P.given.tree = none) (hpr : PrgOk P file) (hml : el.map (fun d => mtW K d.x) = el.map ErD.val) : FnO P w K mg base "_law_refused" 5 PG.sp__law_refused := by
  obtain ⟨fd, F⟩ := c.def_ 27 (d := dd__law_refused) rfl
  unfold PG.sp__law_refused
  exact mkO (N := (["_law_train_here"] : List Str)) hns htr F (He.glo_ok KX GX (c.fact 27 (f := .glo "_law_refused") rfl)) sc__law_refused rfl rfl (by decide) (fun _ _ _ _ _ _ us hl => match us, hl with | [_], _ => rfl) (fun X Wx cdv A outer s H E hX tk hcd am => by subst hX; exact d__law_refused tk am sc__law_refused.nd rfl (passes_of rfl) rfl rfl (fun _ => rfl) rfl rfl (o_Bench___init__ (P := P) (w := w) KX GX c hxb hns htr hpr hml) (e_exmB_TrainFull_TrainFull KX GX hxb))
theorem sc_law : FnScope (["_law_script", "_law_box_here", "_law_train_here", "_law_handed", "_law_pairs", "_law_turn", "_law_at", "_law_bench", "_law_rows", "_law_operation_here", "_law_due", "_law_after", "_law_one", "_law_known", "_law_k"] : List Str) (["_law_script"] : List Str) (defScope s_law) := ⟨rfl, rfl, rfl, by decide +kernel, rfl, by decide +kernel, by decide +kernel⟩
theorem d_law {X : Cx} {Wx : WX} (tk : Takes X Wx) (am : Amb 5 X) (hN : X.N.Nodup) (hc : X.calm = true) (hxe : PassesOwn (model X.prog X.w) X.A X.env X.xe) (eN : X.N = (["_law_script", "_law_box_here", "_law_train_here", "_law_handed", "_law_pairs", "_law_turn", "_law_at", "_law_bench", "_law_rows", "_law_operation_here", "_law_due", "_law_after", "_law_one", "_law_known", "_law_k"] : List Str)) (eS : X.env.scope = defScope s_law) (hfn : ∀ x, X.fn x = true) (hsk : X.stack = X.env :: X.outer) (hfl : X.env.frame = some X.env.locals) (fr_range : X.mg "range" = none) (fr_list : X.mg "list" = none) (fr_len : X.mg "len" = none) (G__law_box : FnG X.prog X.w X.K X.mg X.base "_law_box" 2 PG.sp__law_box []) (G__law_train : FnG X.prog X.w X.K X.mg X.base "_law_train" 5 PG.sp__law_train_2 []) (G__law_draw : FnG X.prog X.w X.K X.mg X.base "_law_draw" 1 PG.sp__law_draw_2 []) (G__law_operation : FnG X.prog X.w X.K X.mg X.base "_law_operation" 5 PG.sp__law_operation []) (G__law_done : FnG X.prog X.w X.K X.mg X.base "_law_done" 1 PG.sp__law_done []) (G__law_same : FnG X.prog X.w X.K X.mg X.base "_law_same" 1 PG.sp__law_same []) (O__law_refused : FnO X.prog X.w X.K X.mg X.base "_law_refused" 5 PG.sp__law_refused) (O_Bench___init__ : MkO X.prog X.w X.K X.mg X.base "Bench" 3 PG.sp_Bench___init__) (O_Bench_branch : MthO X.prog X.w X.K X.mg X.base "Bench" "branch" 5 PG.sp_Bench_branch_2) (O__law_tried : FnO X.prog X.w X.K X.mg X.base "_law_tried" 4 PG.sp__law_tried) (O_Bench_train_own : MthO X.prog X.w X.K X.mg X.base "Bench" "train" 1 PG.sp_Bench_train_own) (O_Bench_history_own : MthO X.prog X.w X.K X.mg X.base "Bench" "history" 1 PG.sp_Bench_history_own) (O__law_right : FnO X.prog X.w X.K X.mg X.base "_law_right" 2 PG.sp__law_right) : JSOs X Wx (defBody s_law) PG.w_law_52 := by
  have hr := am.rm
  have n0 : X.N[0]? = some ("_law_script" : Str) := by rw [eN]; rfl
  have v0 : SlotOk X 0 "_law_script" := slot_of eS eN hfn rfl (.inl rfl)
  have n1 : X.N[1]? = some ("_law_box_here" : Str) := by rw [eN]; rfl
  have v1 : SlotOk X 1 "_law_box_here" := slot_of eS eN hfn rfl (.inl rfl)
  have n2 : X.N[2]? = some ("_law_train_here" : Str) := by rw [eN]; rfl
  have v2 : SlotOk X 2 "_law_train_here" := slot_of eS eN hfn rfl (.inl rfl)
  have n3 : X.N[3]? = some ("_law_handed" : Str) := by rw [eN]; rfl
  have v3 : SlotOk X 3 "_law_handed" := slot_of eS eN hfn rfl (.inl rfl)
  have n4 : X.N[4]? = some ("_law_pairs" : Str) := by rw [eN]; rfl
  have v4 : SlotOk X 4 "_law_pairs" := slot_of eS eN hfn rfl (.inl rfl)
  have n5 : X.N[5]? = some ("_law_turn" : Str) := by rw [eN]; rfl
  have v5 : SlotOk X 5 "_law_turn" := slot_of eS eN hfn rfl (.inl rfl)
  have n6 : X.N[6]? = some ("_law_at" : Str) := by rw [eN]; rfl
  have v6 : SlotOk X 6 "_law_at" := slot_of eS eN hfn rfl (.inl rfl)
  have n7 : X.N[7]? = some ("_law_bench" : Str) := by rw [eN]; rfl
  have v7 : SlotOk X 7 "_law_bench" := slot_of eS eN hfn rfl (.inl rfl)
  have n8 : X.N[8]? = some ("_law_rows" : Str) := by rw [eN]; rfl
  have v8 : SlotOk X 8 "_law_rows" := slot_of eS eN hfn rfl (.inl rfl)
  have n9 : X.N[9]? = some ("_law_operation_here" : Str) := by rw [eN]; rfl
  have v9 : SlotOk X 9 "_law_operation_here" := slot_of eS eN hfn rfl (.inl rfl)
  have n10 : X.N[10]? = some ("_law_due" : Str) := by rw [eN]; rfl
  have v10 : SlotOk X 10 "_law_due" := slot_of eS eN hfn rfl (.inl rfl)
  have n11 : X.N[11]? = some ("_law_after" : Str) := by rw [eN]; rfl
  have v11 : SlotOk X 11 "_law_after" := slot_of eS eN hfn rfl (.inl rfl)
  have n12 : X.N[12]? = some ("_law_one" : Str) := by rw [eN]; rfl
  have v12 : SlotOk X 12 "_law_one" := slot_of eS eN hfn rfl (.inl rfl)
  have n13 : X.N[13]? = some ("_law_known" : Str) := by rw [eN]; rfl
  have v13 : SlotOk X 13 "_law_known" := slot_of eS eN hfn rfl (.inl rfl)
  have n14 : X.N[14]? = some ("_law_k" : Str) := by rw [eN]; rfl
  have gl__law_box : Gl X "_law_box" := gl_of eS rfl
  have gl__law_train : Gl X "_law_train" := gl_of eS rfl
  have gl__law_draw : Gl X "_law_draw" := gl_of eS rfl
  have gl_range : Gl X "range" := gl_of eS rfl
  have gl_list : Gl X "list" := gl_of eS rfl
  have gl_len : Gl X "len" := gl_of eS rfl
  have gl__law_refused : Gl X "_law_refused" := gl_of eS rfl
  have gl_Bench : Gl X "Bench" := gl_of eS rfl
  have gl__law_operation : Gl X "_law_operation" := gl_of eS rfl
  have gl__law_done : Gl X "_law_done" := gl_of eS rfl
  have gl__law_same : Gl X "_law_same" := gl_of eS rfl
  have gl__law_tried : Gl X "_law_tried" := gl_of eS rfl
  have gl__law_right : Gl X "_law_right" := gl_of eS rfl
  exact (so_cons (so_of (fun os => by letI : Ghost := gho X.K os; exact (js_st hN v1 (je_cg G__law_box hr gl__law_box (ja_cons (je_v v0) (ja_cons je_int (ja_cons je_int ja_nil)))))))
  (so_cons (so_of (fun os => by letI : Ghost := gho X.K os; exact (js_st hN v2 (je_cg G__law_train hr gl__law_train (ja_cons (je_v v1) (ja_cons je_int ja_nil))))))
  (so_cons (so_of (fun os => by letI : Ghost := gho X.K os; exact (js_if (jt_cmp (o_eq hr) (je_cg G__law_draw hr gl__law_draw (ja_cons (je_v v1) (ja_cons je_int ja_nil))) je_int (nomark _))
  (js_one (js_setLc false (i := 2) (own' := [("_law_k", 14)]) (by decide) hc hN n2 (by rw [eS]; rfl) (sw_true (by rw [eS]; rfl) (by rw [eS]; rfl) rfl (by decide +kernel)) (ji_range1 gl_range fr_range (ja_cons (je_op o_addA je_int (je_cg G__law_draw hr gl__law_draw (ja_cons (je_v v1) (ja_cons je_int ja_nil)))) ja_nil)) (blk_of eN eS (own := [("_law_k", 14)]) (by decide +kernel)) (fun s H C cl fp => (jg_of (pg_name (i := 14) hN n14 (by first | exact .inl rfl | exact .inr rfl)))) (fun s H C cl fp => jts_nil) (fun s H C cl fp => (je_tup (ja_cons je_str (ja_cons (je_tup (ja_cons (je_var 14 n14 (hv := (by first | exact Or.inl rfl | exact Or.inr (Or.inl rfl) | exact vis_free (by decide +kernel)))) (ja_cons je_int ja_nil))) ja_nil))))))
  js_nil)))
  (so_cons (so_of (fun os => by letI : Ghost := gho X.K os; exact (js_st hN v3 (je_bty b_list gl_list fr_list RT.boot_list (ja_cons (je_v v2) ja_nil)))))
  (so_cons (so_if (to_of (fun os => by letI : Ghost := gho X.K os; exact (jt_cmp o_gt (je_bi b_len gl_len fr_len RT.boot_len (ja_cons (je_v v2) ja_nil)) je_int (nomark _))))
  (so_one (so_ret (eo_call O__law_refused hr gl__law_refused tk (ao_of (fun os => by letI : Ghost := gho X.K os; exact (ja_cons (je_v v3) ja_nil))))))
  so_nil)
  (sos_grp hN v4 (eo_make O_Bench___init__ hr gl_Bench tk (ao_of (fun os => by letI : Ghost := gho X.K os; exact (ja_cons (je_v v3) ja_nil)))) (eo_of (fun os => by letI : Ghost := gho X.K os; exact (je_lst (ja_cons (je_bty b_list gl_list fr_list RT.boot_list (ja_cons (je_v v2) ja_nil)) ja_nil))))
  (gos_cons (go_for hxe hc (ji_range1 gl_range fr_range (ja_cons je_int ja_nil)) (jg_of (pg_v hN v5))
  (gos_cons (go_setL (i := 6) (ig := 4) G__law_draw.up hr gl__law_draw tk hN v6 (eo_of (fun os => by letI : Ghost := gho X.K os; exact (je_v v1))) v4.hN v4.vis gl_len fr_len (hd := v4.nd) (hcd := v4.nc))
  (gos_cons (go_unp (ig := 4) (ia := 6) (i1 := 7) (i2 := 8) v4.hN v4.vis v6.hN v6.vis (pg_lst hc (pgs_cons (pg_v hN v7) (pgs_cons (pg_v hN v8) pgs_nil))) v4.nd v4.nc v6.nd v6.nc)
  (gos_cons (go_if (tg_and (to_of (fun os => by letI : Ghost := gho X.K os; exact (jt_cmp (o_eq hr) (je_cg G__law_draw hr gl__law_draw (ja_cons (je_v v1) (ja_cons je_int ja_nil))) je_int (nomark _)))) (tg_lenLt (ig := 4) v4.hN v4.vis gl_len fr_len v4.nd v4.nc))
  (gos_one (go_app (ig := 4) v4.hN v4.vis (eo_meth0 O_Bench_branch hr tk (eo_of (fun os => by letI : Ghost := gho X.K os; exact (je_v v7)))) (eo_of (fun os => by letI : Ghost := gho X.K os; exact (je_v v8))) v4.nd v4.nc))
  (gos_cons (go_js (so_of (fun os => by letI : Ghost := gho X.K os; exact (js_st hN v9 (je_cg G__law_operation hr gl__law_operation (ja_cons (je_v v1) (ja_cons (je_bi b_len gl_len fr_len RT.boot_len (ja_cons (je_ix (je_v v8) (je_neg je_int)) ja_nil)) ja_nil)))))))
  (gos_cons (go_js (so_of (fun os => by letI : Ghost := gho X.K os; exact (js_asgL (je_cg G__law_done hr gl__law_done (ja_cons (je_v v8) (ja_cons (je_v v9) ja_nil))) (pg_lst hc (pgs_cons (pg_v hN v10) (pgs_cons (pg_v hN v11) pgs_nil)))))))
  (gos_cons (go_js (so_if (to_not (to_tru (eo_call G__law_same.up hr gl__law_same tk (ao_cons (eo_call O__law_tried hr gl__law_tried tk (ao_of (fun os => by letI : Ghost := gho X.K os; exact (ja_cons (je_v v7) (ja_cons (je_v v9) ja_nil))))) (ao_cons (eo_of (fun os => by letI : Ghost := gho X.K os; exact (je_v v10))) ao_nil)))))
  (so_one (so_of (fun os => by letI : Ghost := gho X.K os; exact (js_ret je_bl))))
  so_nil))
  (gos_one (go_put (ig := 4) (ia := 6) rfl (eo_of (fun os => by letI : Ghost := gho X.K os; exact (je_v v11))) v4.hN v4.vis v6.hN v6.vis v4.nd v4.nc v6.nd v6.nc))))))
  (gos_cons (go_js (so_do (eo_appO (eo_meth0 O_Bench_train_own hr tk (eo_of (fun os => by letI : Ghost := gho X.K os; exact (je_v v7)))) (ao_of (fun os => by letI : Ghost := gho X.K os; exact (ja_cons (je_tup (ja_cons je_str (ja_cons (je_tup (ja_cons je_int (ja_cons je_int ja_nil))) ja_nil))) ja_nil))))))
  (gos_cons (go_js (so_do (eo_appO (eo_meth0 O_Bench_history_own hr tk (eo_of (fun os => by letI : Ghost := gho X.K os; exact (je_v v7)))) (ao_of (fun os => by letI : Ghost := gho X.K os; exact (ja_cons (je_lst ja_nil) ja_nil))))))
  (gos_one (go_forP (ig := 4) (i1 := 12) (i2 := 13) hxe hc v4.hN v4.vis (pg_lst hc (pgs_cons (pg_v hN v12) (pgs_cons (pg_v hN v13) pgs_nil)))
  (so_one (so_if (to_not (to_tru (eo_call O__law_right hr gl__law_right tk (ao_of (fun os => by letI : Ghost := gho X.K os; exact (ja_cons (je_v v12) (ja_cons (je_v v13) ja_nil)))))))
  (so_one (so_of (fun os => by letI : Ghost := gho X.K os; exact (js_ret je_bl))))
  so_nil)) v4.nd v4.nc))))))))
  (gos_one (go_js (so_of (fun os => by letI : Ghost := gho X.K os; exact (js_ret je_bl))))))))))))
theorem f_law (KX : K.In base) (GX : base.Ns mainGlobals mg) (c : He.SaysD fa fn K) (hxb : xb K = true) (hns : BaseOk K mg base) (htr : P.given.tree = none) (hpr : PrgOk P file) (hml : el.map (fun d => mtW K d.x) = el.map ErD.val) {fd : FuncData} (F : FunD K dd_law.name dd_law.qual dd_law.params dd_law.body dd_law.scope (dd_law.dvs K) (dd_law.kws K) (He.fAd K dd_law.at_) fd) : Fnn P w K mg base CX0 6 (He.fAd K dd_law.at_) fd (["_law_script"] : List Str) (liftSp K (spBr false PG.sp_law_52)) := by
  unfold PG.sp_law_52
  exact fn_br false (fnO_of (N := (["_law_script", "_law_box_here", "_law_train_here", "_law_handed", "_law_pairs", "_law_turn", "_law_at", "_law_bench", "_law_rows", "_law_operation_here", "_law_due", "_law_after", "_law_one", "_law_known", "_law_k"] : List Str)) hns htr F sc_law rfl rfl (by decide) (fun X Wx cdv A outer s H E hX tk hcd am => by subst hX; exact d_law tk am sc_law.nd rfl (passes_of rfl) rfl rfl (fun _ => rfl) rfl rfl (He.free_ok KX GX (c.fact 31 (f := .free "range") rfl)) (He.free_ok KX GX (c.fact 30 (f := .free "list") rfl)) (He.free_ok KX GX (c.fact 29 (f := .free "len") rfl)) (g__law_box (P := P) (w := w) KX GX c hxb hns htr hpr hml) (g__law_train (P := P) (w := w) KX GX c hxb hns htr hpr hml) (g__law_draw (P := P) (w := w) KX GX c hxb hns htr hpr hml) (g__law_operation (P := P) (w := w) KX GX c hxb hns htr hpr hml) (g__law_done (P := P) (w := w) KX GX c hxb hns htr hpr hml) (g__law_same (P := P) (w := w) KX GX c hxb hns htr hpr hml) (o__law_refused (P := P) (w := w) KX GX c hxb hns htr hpr hml) (o_Bench___init__ (P := P) (w := w) KX GX c hxb hns htr hpr hml) (o_Bench_branch (P := P) (w := w) KX GX c hxb hns htr hpr hml) (o__law_tried (P := P) (w := w) KX GX c hxb hns htr hpr hml) (o_Bench_train_own (P := P) (w := w) KX GX c hxb hns htr hpr hml) (o_Bench_history_own (P := P) (w := w) KX GX c hxb hns htr hpr hml) (o__law_right (P := P) (w := w) KX GX c hxb hns htr hpr hml)))

end

abbrev R : PySem.W.OpenRow := PySem.W.OpenLaw.row PySem.Challenge.rw_raytrain_k56_benches
abbrev hk : PySem.W.Hook := hookM 2 ml fa fn el xb
def ob (s : PySem.W.SharedT) : AlR × List MtW := obsM 2 ml fa fn el xb (HandSHeadRun.getT s)
theorem ob_eq (s : PySem.W.SharedT) : ob s = hk.obs s.abs := obsM_eq (HandSHeadRun.getT_eq s)
def loose : List Str := (["__name__", "RaytrainError", "NoSuchElement", "NoSuchPosition", "TrainFull", "MOST", "Bench", "_law_cell", "_law_row", "_law_box", "_law_draw", "_law_frac", "_law_add", "_law_fraction", "_law_nonzero", "_law_stop", "_law_element", "_law_train", "_law_same", "_law_tried", "_law_done", "_law_operation", "_law_right", "_law_refused"] : List Str)
theorem run (w : World) : HandSHeadRun.RunEq R (PySem.W.view R.prog [26]) hk ob 12000 loose w := by
  intro os
  kernel_rfl
theorem facts {w : World} {K : PySem.W.Frag} {h : Heap} {mg : Str → Option Value} {f : Addr} (X : K.In h) (G : h.Ns mainGlobals mg) (hfa : mg ("law" : Str) = some (.ref f)) (c : He.SaysD fa fn K) (hxb : xb K = true) (hml : el.map (fun d => mtW K d.x) = el.map ErD.val) :
    ∃ fd : FuncData, (∀ (s : Shared) (v : Value), BindsTo s fd ⟨[v], []⟩ [("_law_script", v)]) ∧ ∀ base : Heap, K.In base → base.Ns mainGlobals mg → BaseOk K mg base → Fnn PySem.Challenge.rw_raytrain_k56_benches.prog w K mg base CX0 6 f fd ["_law_script"] (liftSp K (spBr false PG.sp_law_52)) := by
  obtain ⟨fd, F⟩ := c.def_ 28 (d := dd_law) rfl
  have e := hfa.symm.trans (He.glo_ok X G (c.fact 28 (f := .glo "law") rfl))
  cases e
  have b := FunD.bindsA (ps := ["_law_script"]) F fun _ _ _ _ _ _ us hl => match us, hl with | [_], _ => rfl
  exact ⟨fd, fun s v => b s [v] rfl, fun base KX GX hns => f_law KX GX c hxb hns rfl ⟨rfl, by rfl⟩ hml F⟩

end K56

open PySem PySem.W PySem.Calls PyProof.Rows
set_option maxHeartbeats 0 in
theorem K56.holds_of (law : RT.LawD 63 (RT.spBr false PG.sp_law_52)) : PySem.Challenge.rw_raytrain_k56_benches.Holds := by
  w_on; o_law
  refine HandSHeadRun.head_any (r := OpenLaw.row PySem.Challenge.rw_raytrain_k56_benches) (q := view (OpenLaw.row PySem.Challenge.rw_raytrain_k56_benches).prog [26]) (H := K56.hk) (ob := K56.ob) (M := 12000) (loose := K56.loose) (d := HandSHeadRun.topDef (OpenLaw.row PySem.Challenge.rw_raytrain_k56_benches).prog 26) (kwd := []) K56.ob_eq
    (by kernel_rfl) (fun s => by kernel_rfl) K56.run (by kernel_rfl) (by kernel_rfl) (by kernel_rfl) (by rfl) (by first | assumption | decide +kernel) (by decide +kernel) ⟨rfl, rfl, rfl, rfl, rfl, by decide +kernel⟩ ?hw ?hc
  case hw => w_witness2
  case hc =>
    refine RT.walk_R (l := PySem.Challenge.rw_raytrain_k56_benches) (n := 63) (k := 6) (x := "_law_script") (sp := (RT.spBr false PG.sp_law_52)) rfl (by decide) (by kernel_rfl) ⟨⟨rfl, by decide, by decide⟩, rfl, by decide⟩ (by kernel_rfl) law ?F
    intro w mg fa h Y G hmg0
    obtain ⟨K, KX, nl, tk, xbK, c, hml⟩ := Y
    have hmg : mg ("law" : PySem.Str) = some (.ref fa) := by
      have e : (HandSHeadRun.topDef (OpenLaw.row PySem.Challenge.rw_raytrain_k56_benches).prog 26).name = ("law" : PySem.Str) := by kernel_rfl
      rw [← e]
      exact hmg0
    obtain ⟨fd, hb, hF⟩ := K56.facts (w := w) KX G hmg c xbK hml
    exact ⟨K, fd, KX, nl, tk, hb, hF⟩

theorem PySem.Challenge.cw_raytrain_k56_benches_holds : PySem.Challenge.rw_raytrain_k56_benches.Holds :=
  K56.holds_of PG.law_k56

