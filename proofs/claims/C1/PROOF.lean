import PyProof.Rows.All
import Wide.All
import OpenK.AllK
import Wide.FinOn
import HandS.ForSpec
import HandS.Comp
import HandS.Dict
import HandS.Iter
import HandS.Walk
import KE.SortData
import KE.DataMinMax
import PyProof.NeKinds
import HandS.Conv
import HandS.Zip
import HandS.Strs
import PyProof.Claim2Refuses
import PySem.Challenge.RW_safegrants_s01_answers
import HandS.WordsDict
import HandS.ExcInit
import HandS.ExcSuper
import HandS.ExcField
import HandS.WordsExc
import KE.KDictItemsList
import KE.KDictZip
import HandS.ExcOwn
import HandS.ExcIs
import Open.SpecLaws
import KE.OsGo

section
set_option Elab.async false
set_option linter.all false
set_option maxRecDepth 100000
set_option maxHeartbeats 4000000
/-! G: what stands still (F) within what stands (H): representations, readings that evaluate to something represented -/
namespace G
open PySem PySem.Spec PyProof.Rows L2

/-! ### representations -/
abbrev Rp := V → Hp → Prop
class MS (P : Rp) : Prop where
  mono : ∀ {F F' : Hp} {v : V}, Same F F' → P v F → P v F'
theorem up {P : Rp} [MS P] {F F' : Hp} {v : V} (s : Same F F') (p : P v F) : P v F' := MS.mono s p
def zI (i : Int) : Rp := fun v _ => v = .int i
abbrev zN (n : Nat) : Rp := zI (n : Int)
def zB (b : Bool) : Rp := fun v _ => v = .bl b
def zNo : Rp := fun v _ => v = .non
def zAt (a : Addr) : Rp := fun v _ => v = .ref a
instance {i : Int} : MS (zI i) := ⟨fun _ p => p⟩
instance {b : Bool} : MS (zB b) := ⟨fun _ p => p⟩
instance : MS zNo := ⟨fun _ p => p⟩
instance {a : Addr} : MS (zAt a) := ⟨fun _ p => p⟩
/-- the longest lists of ours -/
def LB : Nat := 20000
theorem LB_lt {n : Nat} (h : n ≤ LB) : n < sizeLine := Nat.lt_of_le_of_lt h (by decide)
theorem LB_le {n : Nat} (h : n ≤ LB) : n ≤ sizeLine := Nat.le_of_lt (LB_lt h)
/-- a list of things represented one by one -/
def zL {α : Type} (f : α → Rp) (l : List α) : Rp := fun v F => ∃ p us, v = .ref p ∧ F p = some (.lst us) ∧ Paired (fun a u => f a u F) l us ∧ l.length ≤ LB
theorem paired_up {α : Type} {f : α → Rp} [∀ a, MS (f a)] {F F' : Hp} (s : Same F F') {l : List α} {us : List V} (h : Paired (fun a u => f a u F) l us) : Paired (fun a u => f a u F') l us :=
  Paired.mono (fun _ _ p => up s p) h
instance {α : Type} {f : α → Rp} [∀ a, MS (f a)] {l : List α} : MS (zL f l) := ⟨fun s ⟨p, us, e, h, q, z⟩ => ⟨p, us, e, s p _ h, paired_up s q, z⟩⟩
/-- a tuple -/
inductive AllR : List Rp → List V → Hp → Prop
  | nil {F : Hp} : AllR [] [] F
  | cons {P : Rp} {v : V} {Ps : List Rp} {vs : List V} {F : Hp} : P v F → AllR Ps vs F → AllR (P :: Ps) (v :: vs) F
class MSs (Ps : List Rp) : Prop where
  mono : ∀ {F F' : Hp} {vs : List V}, Same F F' → AllR Ps vs F → AllR Ps vs F'
instance : MSs [] := ⟨fun _ h => by cases h; exact .nil⟩
instance {P : Rp} {Ps : List Rp} [MS P] [MSs Ps] : MSs (P :: Ps) := ⟨fun s h => by
  cases h with
  | cons p q => exact .cons (up s p) (MSs.mono s q)⟩
def zT (Ps : List Rp) : Rp := fun v F => ∃ p us, v = .ref p ∧ F p = some (.tup us) ∧ AllR Ps us F
instance {Ps : List Rp} [MSs Ps] : MS (zT Ps) := ⟨fun s ⟨p, us, e, h, q⟩ => ⟨p, us, e, s p _ h, MSs.mono s q⟩⟩
theorem allR_map {α : Type} {f : α → Rp} {F : Hp} : ∀ {l : List α} {us : List V}, AllR (l.map f) us F → Paired (fun a u => f a u F) l us
  | [], _, h => by cases h; exact .nil
  | a :: l, _, h => by
    cases h with
    | cons p q => exact .cons p (allR_map q)
theorem AllR.len {Ps : List Rp} {us : List V} {F : Hp} (h : AllR Ps us F) : us.length = Ps.length := by
  induction h with
  | nil => rfl
  | cons _ _ ih => simp [ih]
theorem paired_map {α β : Type} {f : β → Rp} (h : α → β) {F : Hp} : ∀ {l : List α} {us : List V}, Paired (fun a u => f (h a) u F) l us → Paired (fun b u => f b u F) (l.map h) us
  | [], _, .nil => .nil
  | _ :: _, _, .cons p q => .cons p (paired_map h q)
theorem paired_ints {F : Hp} : ∀ {l : List Int} {us : List V}, Paired (fun a u => zI a u F) l us → us = l.map V.int
  | [], _, .nil => rfl
  | _ :: _, _, .cons p q => by
    rw [List.map_cons, ← paired_ints q]
    congr 1
theorem paired_of_ints {F : Hp} : ∀ l : List Int, Paired (fun a u => zI a u F) l (l.map V.int)
  | [] => .nil
  | _ :: l => .cons rfl (paired_of_ints l)
theorem paired_nats {F : Hp} : ∀ {l : List Nat} {us : List V}, Paired (fun a u => zN a u F) l us → us = l.map fun n : Nat => V.int (n : Int)
  | [], _, .nil => rfl
  | _ :: _, _, .cons p q => by
    rw [List.map_cons, ← paired_nats q]
    congr 1
theorem paired_bls {F : Hp} : ∀ {l : List Bool} {us : List V}, Paired (fun a u => zB a u F) l us → us = l.map V.bl
  | [], _, .nil => rfl
  | _ :: _, _, .cons p q => by
    rw [List.map_cons, ← paired_bls q]
    congr 1
theorem paired_get {α : Type} {R : α → V → Prop} : ∀ {l : List α} {us : List V} {i : Nat} {a : α}, Paired R l us → l[i]? = some a → ∃ u, us[i]? = some u ∧ R a u
  | _, _, i, _, .nil, h => by simp at h
  | _, _, 0, a, .cons p q, h => by
    have : _ = a := Option.some.inj h
    subst this
    exact ⟨_, rfl, p⟩
  | _, _, i + 1, a, .cons p q, h => paired_get (i := i) q (by simpa using h)
theorem paired_get' {α : Type} {R : α → V → Prop} : ∀ {l : List α} {us : List V} {i : Nat} {u : V}, Paired R l us → us[i]? = some u → ∃ a, l[i]? = some a ∧ R a u
  | _, _, i, _, .nil, h => by simp at h
  | _, _, 0, u, .cons p q, h => by
    have : _ = u := Option.some.inj h
    subst this
    exact ⟨_, rfl, p⟩
  | _, _, i + 1, u, .cons p q, h => paired_get' (i := i) q (by simpa using h)
theorem paired_app {α : Type} {R : α → V → Prop} : ∀ {l m : List α} {us ws : List V}, Paired R l us → Paired R m ws → Paired R (l ++ m) (us ++ ws)
  | _, _, _, _, .nil, s => s
  | _, _, _, _, .cons r t, s => .cons r (paired_app t s)

/-! ### what stands still, later -/
def New (F F' H : Hp) : Prop := ∀ a, H a ≠ none → F a = none → F' a = none
structure Fut (F F' H H2 : Hp) : Prop where
  ff : Same F F'
  fh : Same F' H2
  hh : Same H H2
  nw : New F F' H
theorem Fut.refl {F H : Hp} (s : Same F H) : Fut F F H H := ⟨Same.refl F, s, Same.refl H, fun _ _ n => n⟩
theorem same_ne {H H2 : Hp} (s : Same H H2) {a : Addr} (h : H a ≠ none) : H2 a ≠ none := fun z => by
  cases e : H a with
  | none => exact h e
  | some o =>
    rw [s a o e] at z
    cases z
theorem Fut.trans {F F1 F2 H H1 H2 : Hp} (a : Fut F F1 H H1) (b : Fut F1 F2 H1 H2) : Fut F F2 H H2 :=
  ⟨a.ff.trans b.ff, b.fh, a.hh.trans b.hh, fun x hx n => b.nw x (same_ne a.hh hx) (a.nw x hx n)⟩
/-- the same with more around -/
theorem Fut.grow {F H H2 : Hp} (s : Same F H) (h : Same H H2) : Fut F F H H2 := ⟨Same.refl F, s.trans h, h, fun _ _ n => n⟩
theorem same_upd {F H : Hp} {p : Addr} {o : HO} (s : Same F H) (n : H p = none) : Same F (upd H p o) := fun a u e => by
  rw [upd_ne (ne_of_none (s a u e) n)]
  exact s a u e
theorem same_none {F H : Hp} {p : Addr} (s : Same F H) (n : H p = none) : F p = none := s.free n
theorem Fut.new {F H : Hp} {p : Addr} {o : HO} (s : Same F H) (n : H p = none) : Fut F (upd F p o) H (upd H p o) := by
  refine ⟨same_upd (Same.refl F) (same_none s n), fun a u e => ?_, same_upd (Same.refl H) n, fun a ha hf => ?_⟩
  · by_cases h : a = p
    · subst h
      rw [upd_same] at e ⊢
      exact e
    · rw [upd_ne h] at e ⊢
      exact s a u e
  · by_cases h : a = p
    · subst h
      exact absurd n ha
    · rw [upd_ne h]
      exact hf
/-- a thing of ours, made since, stands still from now on -/
theorem Fut.add {F0 F H0 H : Hp} {p : Addr} {o : HO} (u : Fut F0 F H0 H) (n : H0 p = none) (hp : H p = some o) (hf : F p = none) (f0 : Same F0 H0) : Fut F0 (upd F p o) H0 H := by
  refine ⟨same_upd u.ff hf, fun a w e => ?_, u.hh, fun a ha hn => ?_⟩
  · by_cases h : a = p
    · subst h
      rw [upd_same] at e
      cases e
      exact hp
    · rw [upd_ne h] at e
      exact u.fh a w e
  · by_cases h : a = p
    · subst h
      exact absurd n ha
    · rw [upd_ne h]
      exact u.nw a ha hn
def uni (A B : Hp) : Hp := fun a => match A a with
  | some o => some o
  | none => B a
theorem same_uni_l (A B : Hp) : Same A (uni A B) := fun a o e => by
  unfold uni
  rw [e]
theorem same_uni_r {A B H : Hp} (ha : Same A H) (hb : Same B H) : Same B (uni A B) := fun a o e => by
  unfold uni
  cases q : A a with
  | none => exact e
  | some u =>
    have h1 := ha a u q
    have h2 := hb a o e
    rw [h1] at h2
    exact h2
theorem Fut.join {F F1 F2 H1 H2 H3 : Hp} (a : Fut F F1 H1 H2) (b : Fut F F2 H2 H3) : Fut F (uni F1 F2) H1 H3 ∧ Same F1 (uni F1 F2) ∧ Same F2 (uni F1 F2) := by
  have h1 : Same F1 H3 := a.fh.trans b.hh
  have h2 : Same F2 H3 := b.fh
  refine ⟨⟨a.ff.trans (same_uni_l _ _), fun x o e => ?_, a.hh.trans b.hh, fun x hx n => ?_⟩, same_uni_l _ _, same_uni_r h1 h2⟩
  · unfold uni at e
    cases q : F1 x with
    | none =>
      rw [q] at e
      exact h2 x o e
    | some u =>
      rw [q] at e
      cases e
      exact h1 x _ q
  · unfold uni
    rw [a.nw x hx n]
    exact b.nw x (same_ne a.hh hx) n

/-! ### what evaluates to what; R: what is known to stand, F: what stands still -/
def Ev (te : TE) (σ : L2.St) (F R : Hp) (P : Rp) : Prop := Same F R → ∀ H1, Same R H1 → ∀ Q : VK, (∀ v H2 F', Fut F F' H1 H2 → P v F' → Q v H2) → te σ H1 Q
def EvT (tt : TT) (σ : L2.St) (F R : Hp) (b : Bool) : Prop := Same F R → ∀ H1, Same R H1 → ∀ Q : Bool → Hp → Prop, (∀ H2, Same H1 H2 → Q b H2) → tt σ H1 Q
def EvA (ta : TA) (σ : L2.St) (F R : Hp) (Ps : List Rp) : Prop := Same F R → ∀ H1, Same R H1 → ∀ Q : List V → Hp → Prop, (∀ vs H2 F', Fut F F' H1 H2 → AllR Ps vs F' → Q vs H2) → ta σ H1 Q
section
variable {K : PySem.W.Frag} {σ : L2.St} {F R : Hp} {ta tb tc te : TE} {t u : TT} {tr : TA} {P P1 P2 : Rp} {Ps : List Rp}
theorem Ev.imp (h : Ev te σ F R P) (f : ∀ v F', Same F F' → P v F' → P1 v F') : Ev te σ F R P1 := fun s H1 h1 Q k => h s H1 h1 Q fun v H2 F' fu p => k v H2 F' fu (f v F' fu.ff p)
theorem Ev.int {i j : Int} (e : i = j) (h : Ev te σ F R (zI i)) : Ev te σ F R (zI j) := by
  rw [← e]
  exact h
theorem Ev.bl {i j : Bool} (e : i = j) (h : Ev te σ F R (zB i)) : Ev te σ F R (zB j) := by
  rw [← e]
  exact h
theorem EvT.bl {i j : Bool} (e : i = j) (h : EvT t σ F R i) : EvT t σ F R j := by
  rw [← e]
  exact h
theorem ev_var {i : Nat} {v : V} (h : σ[i]? = some (some v)) (p : P v F) : Ev (tVar i) σ F R P := fun s H1 h1 Q k => ⟨v, h, k v H1 F (Fut.refl (s.trans h1)) p⟩
theorem ev_c {v : V} (p : P v F) : Ev (tC v) σ F R P := fun s H1 h1 Q k => k v H1 F (Fut.refl (s.trans h1)) p
theorem ev_int {i : Int} : Ev (tC (.int i)) σ F R (zI i) := ev_c rfl
theorem ev_bl {b : Bool} : Ev (tC (.bl b)) σ F R (zB b) := ev_c rfl
theorem ev_non : Ev (tC .non) σ F R zNo := ev_c rfl
/-- two in a row -/
theorem ev_two {Q : VK} [MS P1] [MS P2] {H1 : Hp} (ha : Ev ta σ F R P1) (hb : Ev tb σ F R P2) (s : Same F R) (h1 : Same R H1) {r : V → V → Hp → Prop}
    (k : ∀ x y H3 F', Fut F F' H1 H3 → P1 x F' → P2 y F' → r x y H3) : ta σ H1 fun x H2 => tb σ H2 fun y H3 => r x y H3 :=
  ha s H1 h1 _ fun x H2 F1 u1 p1 => hb s H2 (h1.trans u1.hh) _ fun y H3 F2 u2 p2 => by
    obtain ⟨u, a, b⟩ := u1.join u2
    exact k x y H3 _ u (up a p1) (up b p2)
theorem ev_opI {g : Int → Int → V} {i j : Int} (hp : ∀ F', P (g i j) F') (ha : Ev ta σ F R (zI i)) (hb : Ev tb σ F R (zI j)) : Ev (tOp (rI0 g) ta tb) σ F R P := fun s H1 h1 Q k =>
  ev_two ha hb s h1 (Q := Q) fun x y H3 F' u p q => ⟨i, j, p, q, k _ H3 F' u (hp F')⟩
theorem ev_opC {C : Int → Int → Prop} {g : Int → Int → V} {i j : Int} (hp : ∀ F', P (g i j) F') (hc : C i j) (ha : Ev ta σ F R (zI i)) (hb : Ev tb σ F R (zI j)) : Ev (tOp (rI C g) ta tb) σ F R P := fun s H1 h1 Q k =>
  ev_two ha hb s h1 (Q := Q) fun x y H3 F' u p q => ⟨i, j, p, q, hc, k _ H3 F' u (hp F')⟩
end
end G
end

section
set_option Elab.async false
set_option linter.all false
set_option maxRecDepth 100000
set_option maxHeartbeats 4000000
namespace G
open PySem PySem.Spec PyProof.Rows L2

section
variable {K : PySem.W.Frag} {σ : L2.St} {F R H : Hp} {ta tb tc te tv : TE} {t u : TT} {tr : TA} {P P1 P2 : Rp} {Ps : List Rp}
/-! ### numbers, truth -/
theorem ev_add {i j : Int} (ha : Ev ta σ F R (zI i)) (hb : Ev tb σ F R (zI j)) : Ev (tOp (rI0 fun i j => .int (i + j)) ta tb) σ F R (zI (i + j)) := ev_opI (fun _ => rfl) ha hb
theorem ev_sub {i j : Int} (ha : Ev ta σ F R (zI i)) (hb : Ev tb σ F R (zI j)) : Ev (tOp (rI0 fun i j => .int (i - j)) ta tb) σ F R (zI (i - j)) := ev_opI (fun _ => rfl) ha hb
theorem ev_lt {i j : Int} (ha : Ev ta σ F R (zI i)) (hb : Ev tb σ F R (zI j)) : Ev (tOp (rI0 fun i j => .bl (decide (i < j))) ta tb) σ F R (zB (decide (i < j))) := ev_opI (fun _ => rfl) ha hb
theorem ev_le {i j : Int} (ha : Ev ta σ F R (zI i)) (hb : Ev tb σ F R (zI j)) : Ev (tOp (rI0 fun i j => .bl (decide (i ≤ j))) ta tb) σ F R (zB (decide (i ≤ j))) := ev_opI (fun _ => rfl) ha hb
theorem ev_mul {i j : Int} (h : CMul i j) (ha : Ev ta σ F R (zI i)) (hb : Ev tb σ F R (zI j)) : Ev (tOp (rI CMul fun i j => .int (i * j)) ta tb) σ F R (zI (i * j)) := ev_opC (fun _ => rfl) h ha hb
theorem ev_div {i j : Int} (h : CDiv i j) (ha : Ev ta σ F R (zI i)) (hb : Ev tb σ F R (zI j)) : Ev (tOp (rI CDiv fun i j => .int (i / j)) ta tb) σ F R (zI (i / j)) := ev_opC (fun _ => rfl) h ha hb
theorem ev_mod {i j : Int} (h : 0 < j) (ha : Ev ta σ F R (zI i)) (hb : Ev tb σ F R (zI j)) : Ev (tOp (rI (fun _ j => 0 < j) fun i j => .int (i % j)) ta tb) σ F R (zI (i % j)) := ev_opC (fun _ => rfl) h ha hb
theorem ev_eqI {i j : Int} (ha : Ev ta σ F R (zI i)) (hb : Ev tb σ F R (zI j)) : Ev (tOp rEq ta tb) σ F R (zB (decide (i = j))) := fun s H1 h1 Q k =>
  ev_two ha hb s h1 (Q := Q) fun x y H3 F' u p q => by
    have p' : x = .int i := p
    have q' : y = .int j := q
    subst p' q'
    refine ⟨rfl, k _ H3 F' u ?_⟩
    show V.bl _ = V.bl _
    rw [dec_int, Bool.beq_eq_decide_eq]
theorem ev_neI {i j : Int} (ha : Ev ta σ F R (zI i)) (hb : Ev tb σ F R (zI j)) : Ev (tOp rNe ta tb) σ F R (zB (!decide (i = j))) := fun s H1 h1 Q k =>
  ev_two ha hb s h1 (Q := Q) fun x y H3 F' u p q => by
    have p' : x = .int i := p
    have q' : y = .int j := q
    subst p' q'
    refine ⟨rfl, k _ H3 F' u ?_⟩
    show V.bl _ = V.bl _
    rw [dec_int, Bool.beq_eq_decide_eq]
/-- is None, is not None -/
theorem ev_isN {b : Bool} (hb : ∀ v F', P v F' → decide (v = .non) = b) (ha : Ev ta σ F R P) : Ev (tOp (fun x y H Q => y = .non ∧ Q (.bl (decide (x = .non))) H) ta (tC .non)) σ F R (zB b) := fun s H1 h1 Q k =>
  ha s H1 h1 _ fun v H2 F' u p => ⟨rfl, by
    rw [hb v F' p]
    exact k _ H2 F' u rfl⟩
theorem ev_notN {b : Bool} (hb : ∀ v F', P v F' → decide (v = .non) = b) (ha : Ev ta σ F R P) : Ev (tOp (fun x y H Q => y = .non ∧ Q (.bl (!decide (x = .non))) H) ta (tC .non)) σ F R (zB (!b)) := fun s H1 h1 Q k =>
  ha s H1 h1 _ fun v H2 F' u p => ⟨rfl, by
    rw [hb v F' p]
    exact k _ H2 F' u rfl⟩
theorem et_test {b : Bool} (h : Ev te σ F R (zB b)) : EvT (tTest te) σ F R b := fun s H1 h1 Q k => h s H1 h1 _ fun v H2 F' u p => ⟨b, p, k H2 u.hh⟩
theorem et_B {b : Bool} (h : Ev te σ F R (zB b)) : EvT (tB te) σ F R b := fun s H1 h1 Q k => h s H1 h1 _ fun v H2 F' u p => ⟨b, p, k H2 u.hh⟩
theorem et_yes : EvT tYes σ F R true := fun s H1 h1 Q k => k H1 (Same.refl H1)
theorem et_not {a : Bool} (h : EvT t σ F R a) : EvT (tNot t) σ F R (!a) := fun s H1 h1 Q k => h s H1 h1 _ fun H2 e2 => k H2 e2
theorem et_and {a b : Bool} (h1 : EvT t σ F R a) (h2 : a = true → EvT u σ F R b) : EvT (tAnd t u) σ F R (a && b) := fun s H1 hh Q k => h1 s H1 hh _ fun H2 e2 => by
  cases a with
  | true =>
    show u σ H2 Q
    exact h2 rfl s H2 (hh.trans e2) Q fun H3 e3 => k H3 (e2.trans e3)
  | false =>
    show Q false H2
    exact k H2 e2
theorem et_or {a b : Bool} (h1 : EvT t σ F R a) (h2 : a = false → EvT u σ F R b) : EvT (tOr t u) σ F R (a || b) := fun s H1 hh Q k => h1 s H1 hh _ fun H2 e2 => by
  cases a with
  | true =>
    show Q true H2
    exact k H2 e2
  | false =>
    show u σ H2 Q
    exact h2 rfl s H2 (hh.trans e2) Q fun H3 e3 => k H3 (e2.trans e3)
theorem ev_andV {a b : Bool} (h1 : Ev ta σ F R (zB a)) (h2 : a = true → Ev tb σ F R (zB b)) : Ev (tAndV ta tb) σ F R (zB (a && b)) := fun s H1 hh Q k => h1 s H1 hh _ fun v H2 F1 u p => ⟨a, p, by
  cases a with
  | true =>
    show tb σ H2 Q
    exact h2 rfl s H2 (hh.trans u.hh) Q fun w H3 F2 u2 p2 => k w H3 _ (u.join u2).1 (up (u.join u2).2.2 p2)
  | false =>
    show Q (.bl false) H2
    exact k _ H2 F1 u rfl⟩
theorem ev_orV {a b : Bool} (h1 : Ev ta σ F R (zB a)) (h2 : a = false → Ev tb σ F R (zB b)) : Ev (tOrV ta tb) σ F R (zB (a || b)) := fun s H1 hh Q k => h1 s H1 hh _ fun v H2 F1 u p => ⟨a, p, by
  cases a with
  | true =>
    show Q (.bl true) H2
    exact k _ H2 F1 u rfl
  | false =>
    show tb σ H2 Q
    exact h2 rfl s H2 (hh.trans u.hh) Q fun w H3 F2 u2 p2 => k w H3 _ (u.join u2).1 (up (u.join u2).2.2 p2)⟩
theorem ev_notV {a : Bool} (h : Ev ta σ F R (zB a)) : Ev (tNotV ta) σ F R (zB (!a)) := fun s H1 hh Q k => h s H1 hh _ fun v H2 F1 u p => ⟨a, p, k _ H2 F1 u rfl⟩
/-- lo <= x <= hi -/
theorem ev_chain {g g' : Int → Int → Bool} {i j l : Int} (ha : Ev ta σ F R (zI i)) (hb : Ev tb σ F R (zI j)) (hc : Ev tc σ F R (zI l)) :
    Ev (tChain (rI0 fun i j => .bl (g i j)) (rI0 fun i j => .bl (g' i j)) ta tb tc) σ F R (zB (g i j && g' j l)) := fun s H1 h1 Q k =>
  ha s H1 h1 _ fun x H2 F1 u1 p1 => hb s H2 (h1.trans u1.hh) _ fun y H3 F2 u2 p2 => ⟨i, j, p1, p2, g i j, rfl, by
    have u := (u1.join u2).1
    cases e : g i j with
    | true =>
      show tc σ H3 _
      refine hc s H3 (h1.trans u.hh) _ fun z H4 F3 u3 p3 => ⟨j, l, p2, p3, ?_⟩
      rw [e] at k
      exact k _ H4 _ (u.join u3).1 rfl
    | false =>
      show Q (.bl false) H3
      rw [e] at k
      exact k _ H3 _ u rfl⟩

/-! ### arguments, displays -/
theorem ea_nil : EvA tNil σ F R [] := fun s H1 h1 Q k => k [] H1 F (Fut.refl (s.trans h1)) .nil
theorem ea_cons [MS P] [MSs Ps] (h : Ev te σ F R P) (hr : EvA tr σ F R Ps) : EvA (tCons te tr) σ F R (P :: Ps) := fun s H1 h1 Q k =>
  h s H1 h1 _ fun v H2 F1 u1 p1 => hr s H2 (h1.trans u1.hh) _ fun vs H3 F2 u2 p2 => by
    obtain ⟨u, a, b⟩ := u1.join u2
    exact k (v :: vs) H3 _ u (.cons (up a p1) (MSs.mono b p2))
theorem ev_lst {α : Type} {f : α → Rp} [∀ a, MS (f a)] (l : List α) (hl : l.length ≤ LB) (h : EvA tr σ F R (l.map f)) : Ev (tLst tr) σ F R (zL f l) := fun s H1 h1 Q k => h s H1 h1 _ fun vs H2 F1 u1 p1 => by
  have e := (allR_map p1)
  have el : vs.length = l.length := by rw [p1.len, List.length_map]
  refine ⟨by rw [el]; exact LB_le hl, fun p hp => ?_⟩
  have u2 := Fut.new (o := HO.lst vs) u1.fh hp
  exact k _ _ _ (u1.trans u2) ⟨p, vs, rfl, upd_same, paired_up u2.ff e, hl⟩
theorem ev_tup [MSs Ps] (hl : Ps.length ≤ 1000) (h : EvA tr σ F R Ps) : Ev (tTup tr) σ F R (zT Ps) := fun s H1 h1 Q k => h s H1 h1 _ fun vs H2 F1 u1 p1 => by
  refine ⟨by rw [p1.len]; exact Nat.le_of_lt (small1000 hl), fun p hp => ?_⟩
  have u2 := Fut.new (o := HO.tup vs) u1.fh hp
  exact k _ _ _ (u1.trans u2) ⟨p, vs, rfl, upd_same, MSs.mono u2.ff p1⟩
theorem ev_nil {α : Type} {f : α → Rp} [∀ a, MS (f a)] : Ev (tLst tNil) σ F R (zL f []) := ev_lst [] (Nat.zero_le _) ea_nil

/-! ### lists -/
theorem zL_at {α : Type} {f : α → Rp} {l : List α} {v : V} {F' : Hp} (h : zL f l v F') : ∃ p us, v = .ref p ∧ F' p = some (.lst us) ∧ us.length = l.length ∧ l.length ≤ LB ∧ Paired (fun a u => f a u F') l us := by
  obtain ⟨p, us, e, h, q, z⟩ := h
  exact ⟨p, us, e, h, q.length.symm, z, q⟩
theorem ev_cat {α : Type} {f : α → Rp} [∀ a, MS (f a)] {l m : List α} (hz : l.length + m.length ≤ LB) (ha : Ev ta σ F R (zL f l)) (hb : Ev tb σ F R (zL f m)) : Ev (tOp rCat ta tb) σ F R (zL f (l ++ m)) := fun s H1 h1 Q k =>
  ev_two ha hb s h1 (Q := Q) fun x y H3 F' u px qx => by
    obtain ⟨p, us, rfl, hp, lp, zp, pp⟩ := zL_at px
    obtain ⟨q, ws, rfl, hq, lq, zq, pq⟩ := zL_at qx
    refine ⟨p, q, us, ws, rfl, rfl, u.fh _ _ hp, u.fh _ _ hq, by rw [lp, lq]; exact LB_le hz, fun r hr => ?_⟩
    have u2 := Fut.new (o := HO.lst (us ++ ws)) u.fh hr
    exact k _ _ _ (u.trans u2) ⟨r, _, rfl, upd_same, paired_up u2.ff (paired_app pp pq), by rw [List.length_append]; exact hz⟩
/-- [0] * n -/
theorem ev_rep0 {n : Nat} (hn : n ≤ LB) (ha : Ev ta σ F R (zL zN [0])) (hb : Ev tb σ F R (zN n)) : Ev (tOp rRep ta tb) σ F R (zL zN (List.replicate n 0)) := fun s H1 h1 Q k =>
  ev_two ha hb s h1 (Q := Q) fun x y H3 F' u px qx => by
    obtain ⟨p, us, rfl, hp, lp, zp, pp⟩ := zL_at px
    have qy : y = .int (n : Int) := qx
    subst qy
    have eus : us = [V.int 0] := by
      have := paired_nats pp
      simpa using this
    subst eus
    have hn' : n ≤ 20000 := hn
    refine ⟨p, n, _, rfl, rfl, u.fh _ _ hp, by omega, by omega, by rw [Int.toNat_natCast]; exact LB_le (by simpa using hn), fun r hr => ?_⟩
    have u2 := Fut.new (o := HO.lst (List.replicate (n : Int).toNat [V.int 0]).flatten) u.fh hr
    refine k _ _ _ (u.trans u2) ⟨r, _, rfl, upd_same, ?_, by simpa using hn⟩
    rw [Int.toNat_natCast]
    clear k hr u2 hn hn' qx hb
    induction n with
    | zero => exact .nil
    | succ n ih =>
      rw [List.replicate_succ, List.replicate_succ, List.flatten_cons]
      exact .cons rfl ih
/-- len(xs) -/
def rLenS (K : PySem.W.Frag) : List V → Hp → VK → Prop := fun xs H Q => ∃ p ys, xs = [.ref p] ∧ (SqL K H p ys ∨ SqT K H p ys) ∧ Q (.int ys.length) H
theorem one_arg [MS P] (h : EvA tr σ F R [P]) : ∀ (s : Same F R) (H1 : Hp) (h1 : Same R H1) (Q : List V → Hp → Prop), (∀ v H2 F', Fut F F' H1 H2 → P v F' → Q [v] H2) → tr σ H1 Q := fun s H1 h1 Q k =>
  h s H1 h1 _ fun vs H2 F' u p => by
    cases p with
    | cons p q =>
      cases q
      exact k _ H2 F' u p
theorem ev_len {α : Type} {f : α → Rp} [∀ a, MS (f a)] {l : List α} (h : EvA tr σ F R [zL f l]) : Ev (tCB (fun xs H Q => ∃ p ys, xs = [.ref p] ∧ (SqL K H p ys ∨ SqT K H p ys) ∧ Q (.int ys.length) H) tr) σ F R (zN l.length) := fun s H1 h1 Q k =>
  one_arg h s H1 h1 _ fun v H2 F' u px => by
    obtain ⟨p, us, rfl, hp, lp, zp, pp⟩ := zL_at px
    refine ⟨p, us, rfl, .inl (SqL.of (u.fh _ _ hp)), ?_⟩
    rw [lp]
    exact k _ H2 F' u rfl
/-- list(xs) -/
theorem ev_list {α : Type} {f : α → Rp} [∀ a, MS (f a)] {l : List α} (h : EvA tr σ F R [zL f l]) : Ev (tCB (fun xs H Q => ∃ p ys, xs = [.ref p] ∧ (SqL K H p ys ∨ SqT K H p ys) ∧ ∀ l, H l = none → Q (.ref l) (upd H l (.lst ys))) tr) σ F R (zL f l) := fun s H1 h1 Q k =>
  one_arg h s H1 h1 _ fun v H2 F' u px => by
    obtain ⟨p, us, rfl, hp, lp, zp, pp⟩ := zL_at px
    refine ⟨p, us, rfl, .inl (SqL.of (u.fh _ _ hp)), fun r hr => ?_⟩
    have u2 := Fut.new (o := HO.lst us) u.fh hr
    exact k _ _ _ (u.trans u2) ⟨r, us, rfl, upd_same, paired_up u2.ff pp, zp⟩
/-- tuple(xs), xs a list -/
def zTl {α : Type} (f : α → Rp) (l : List α) : Rp := fun v F => ∃ p us, v = .ref p ∧ F p = some (.tup us) ∧ Paired (fun a u => f a u F) l us ∧ l.length ≤ LB
instance {α : Type} {f : α → Rp} [∀ a, MS (f a)] {l : List α} : MS (zTl f l) := ⟨fun s ⟨p, us, e, h, q, z⟩ => ⟨p, us, e, s p _ h, paired_up s q, z⟩⟩
theorem ev_tuple {α : Type} {f : α → Rp} [∀ a, MS (f a)] {l : List α} (h : EvA tr σ F R [zL f l]) : Ev (tCB (fun xs H Q => ∃ p ys, xs = [.ref p] ∧ ((SqL K H p ys ∧ ∀ l, H l = none → Q (.ref l) (upd H l (.tup ys))) ∨ (SqT K H p ys ∧ Q (.ref p) H))) tr) σ F R (zTl f l) := fun s H1 h1 Q k =>
  one_arg h s H1 h1 _ fun v H2 F' u px => by
    obtain ⟨p, us, rfl, hp, lp, zp, pp⟩ := zL_at px
    refine ⟨p, us, rfl, .inl ⟨SqL.of (u.fh _ _ hp), fun r hr => ?_⟩⟩
    have u2 := Fut.new (o := HO.tup us) u.fh hr
    exact k _ _ _ (u.trans u2) ⟨r, us, rfl, upd_same, paired_up u2.ff pp, zp⟩
theorem ev_sum {l : List Int} (h : EvA tr σ F R [zL zI l]) : Ev (tCB (rSum K) tr) σ F R (zI l.sum) := fun s H1 h1 Q k =>
  one_arg h s H1 h1 _ fun v H2 F' u px => by
    obtain ⟨p, us, rfl, hp, lp, zp, pp⟩ := zL_at px
    rw [paired_ints pp] at hp
    exact ⟨p, l, rfl, SqL.of (u.fh _ _ hp), k _ H2 F' u rfl⟩
theorem ev_all {l : List Bool} (h : EvA tr σ F R [zL zB l]) : Ev (tCB (rAll K) tr) σ F R (zB (l.all id)) := fun s H1 h1 Q k =>
  one_arg h s H1 h1 _ fun v H2 F' u px => by
    obtain ⟨p, us, rfl, hp, lp, zp, pp⟩ := zL_at px
    rw [paired_bls pp] at hp
    exact ⟨p, l, rfl, SqL.of (u.fh _ _ hp), k _ H2 F' u rfl⟩
theorem ev_any {l : List Bool} (h : EvA tr σ F R [zL zB l]) : Ev (tCB (rAny K) tr) σ F R (zB (l.any id)) := fun s H1 h1 Q k =>
  one_arg h s H1 h1 _ fun v H2 F' u px => by
    obtain ⟨p, us, rfl, hp, lp, zp, pp⟩ := zL_at px
    rw [paired_bls pp] at hp
    exact ⟨p, l, rfl, SqL.of (u.fh _ _ hp), k _ H2 F' u rfl⟩
/-- int(a truth value) -/
theorem ev_intB {b : Bool} (h : EvA tr σ F R [zB b]) : Ev (tCB (fun xs H Q => (∃ i, xs = [.int i] ∧ Q (.int i) H) ∨ ∃ k, xs = [.bl k] ∧ Q (.int (if k then 1 else 0)) H) tr) σ F R (zI (if b then 1 else 0)) := fun s H1 h1 Q k =>
  one_arg h s H1 h1 _ fun v H2 F' u px => .inr ⟨b, by rw [show v = .bl b from px], k _ H2 F' u rfl⟩
/-- xs[i] -/
theorem ev_ix {α : Type} {f : α → Rp} [∀ a, MS (f a)] {l : List α} {i : Int} {j : Nat} {a : α} (hj : l[j]? = some a) (e : i = (j : Int)) (ha : Ev ta σ F R (zL f l)) (hb : Ev tb σ F R (zI i)) : Ev (tOp (rIxL K) ta tb) σ F R (f a) := fun s H1 h1 Q k =>
  ev_two ha hb s h1 (Q := Q) fun x y H3 F' u px qx => by
    obtain ⟨p, us, rfl, hp, lp, zp, pp⟩ := zL_at px
    obtain ⟨v, hv, pv⟩ := paired_get pp hj
    exact ⟨p, us, i, v, rfl, qx, SqL.of (u.fh _ _ hp), by rw [e]; exact atI_nat hv, k _ H3 F' u pv⟩
/-- t[i] of a tuple told item by item -/
theorem ev_ixT {i : Int} {j : Nat} [MSs Ps] (hj : ∀ us F', AllR Ps us F' → ∃ v, us[j]? = some v ∧ P v F') (e : i = (j : Int)) (ha : Ev ta σ F R (zT Ps)) (hb : Ev tb σ F R (zI i)) : Ev (tOp (rIxT K) ta tb) σ F R P := fun s H1 h1 Q k =>
  ev_two ha hb s h1 (Q := Q) fun x y H3 F' u px qx => by
    obtain ⟨p, us, rfl, hp, pp⟩ := px
    obtain ⟨v, hv, pv⟩ := hj us F' pp
    exact ⟨p, us, i, v, rfl, qx, SqT.of (u.fh _ _ hp), by rw [e]; exact atI_nat hv, k _ H3 F' u pv⟩
/-- x in xs, of numbers -/
theorem inV_ints (x : Int) : ∀ l : List Int, inV (.int x) (l.map V.int) = decide (x ∈ l)
  | [] => by simp [inV]
  | a :: l => by
    have ih := inV_ints x l
    unfold inV at ih ⊢
    rw [List.map_cons, List.any_cons, ih]
    have e : eqV (.int a) (.int x) = decide (a = x) := by
      first
        | rfl
        | (simp [eqV]; done)
        | (unfold eqV; exact Bool.beq_eq_decide_eq ..)
    rw [e]
    by_cases h : a = x
    · subst h
      simp
    · have h' : ¬ x = a := fun z => h z.symm
      simp [h, h']
theorem flat_ints (l : List Int) : (l.map V.int).all flatV = true := by
  rw [List.all_eq_true]
  intro v hv
  obtain ⟨i, _, rfl⟩ := List.mem_map.mp hv
  rfl
theorem ev_in {neg : Bool} {x : Int} {l : List Int} (ha : Ev ta σ F R (zI x)) (hb : Ev tb σ F R (zL zI l)) : Ev (tOp (rIn K neg) ta tb) σ F R (zB (if neg then !decide (x ∈ l) else decide (x ∈ l))) := fun s H1 h1 Q k =>
  ev_two ha hb s h1 (Q := Q) fun v y H3 F' u px qx => by
    obtain ⟨p, us, rfl, hp, lp, zp, pp⟩ := zL_at qx
    rw [paired_ints pp] at hp
    have px' : v = .int x := px
    subst px'
    refine ⟨p, _, rfl, .inl (SqL.of (u.fh _ _ hp)), rfl, flat_ints l, ?_⟩
    rw [inV_ints]
    exact k _ H3 F' u rfl
theorem ev_inT {neg : Bool} {x : Int} {l : List Int} (ha : Ev ta σ F R (zI x)) (hb : Ev tb σ F R (zTl zI l)) : Ev (tOp (rIn K neg) ta tb) σ F R (zB (if neg then !decide (x ∈ l) else decide (x ∈ l))) := fun s H1 h1 Q k =>
  ev_two ha hb s h1 (Q := Q) fun v y H3 F' u px qx => by
    obtain ⟨p, us, rfl, hp, pp, zp⟩ := qx
    rw [paired_ints pp] at hp
    have px' : v = .int x := px
    subst px'
    refine ⟨p, _, rfl, .inr (SqT.of (u.fh _ _ hp)), rfl, flat_ints l, ?_⟩
    rw [inV_ints]
    exact k _ H3 F' u rfl

/-! ### fields -/
def HasF (P : Rp) (C : Addr) (f : Str) (P' : Rp) : Prop := ∀ v F', P v F' → ∃ a dx fs u, v = .ref a ∧ F' a = some (.ins C dx fs) ∧ fs.lookup f = some u ∧ P' u F'
theorem ev_fld {C : Addr} {f : Str} (hf : HasF P C f P1) (c : Cls K C) (n : NoAttr K C f) (ha : Ev ta σ F R P) : Ev (tFld K ta f) σ F R P1 := fun s H1 h1 Q k => ha s H1 h1 _ fun v H2 F' u p => by
  obtain ⟨a, dx, fs, w, rfl, h, l, q⟩ := hf v F' p
  exact ⟨a, C, dx, fs, w, rfl, u.fh _ _ h, c, n, l, k w H2 F' u q⟩
/-- of an object that may change -/
theorem ev_fldA {C dx a : Addr} {f : Str} {fs : List (Str × V)} {w : V} [MS P1] (h : R a = some (.ins C dx fs)) (l : fs.lookup f = some w) (q : P1 w F) (c : Cls K C) (n : NoAttr K C f) (ha : Ev ta σ F R (zAt a)) : Ev (tFld K ta f) σ F R P1 := fun s H1 h1 Q k => ha s H1 h1 _ fun v H2 F' u p => by
  have p' : v = .ref a := p
  subst p'
  exact ⟨a, C, dx, fs, w, rfl, u.hh _ _ (h1 _ _ h), c, n, l, k w H2 F' u (up u.ff q)⟩

/-! ### calls -/
/-- a promise: of a thing x the arguments are told by args x, pre is so of what stands still and what stands; what's given back is told by res x; all stands as before -/
def FSp {α : Type} (args : α → List Rp) (pre : α → Hp → Hp → Prop) (res : α → Rp) : Sp := fun vs H Q _ => ∃ (x : α) (F : Hp), Same F H ∧ AllR (args x) vs F ∧ pre x F H ∧ ∀ v H2 F', Fut F F' H H2 → res x v F' → Q v H2
theorem ev_call {α : Type} {args : α → List Rp} {pre : α → Hp → Hp → Prop} {res : α → Rp} {E : XK} (x : α) (hp : ∀ F' H', Same F F' → Same R H' → Same F' H' → New F F' R → pre x F' H') (ha : EvA tr σ F R (args x)) : Ev (tCall (FSp args pre res) [] E tr) σ F R (res x) := fun s H1 h1 Q k => ha s H1 h1 _ fun vs H2 F1 u1 av => by
  refine ⟨x, F1, u1.fh, by rw [List.append_nil]; exact av, hp F1 H2 u1.ff (h1.trans u1.hh) u1.fh (fun a hn h0 => u1.nw a (same_ne h1 hn) h0), fun v H3 F2 u2 r => k v H3 F2 (u1.trans u2) r⟩
def InsIn (P : Rp) (C : Addr) (m : Str) (F R : Hp) : Prop := ∀ v F' H', Same F F' → Same R H' → Same F' H' → P v F' → ∃ a dx fs, v = .ref a ∧ H' a = some (.ins C dx fs) ∧ fs.lookup m = none
theorem ev_meth {α : Type} {args : α → List Rp} {pre : α → Hp → Hp → Prop} {res : α → Rp} {E : XK} {C : Addr} {m : Str} [MS P] [MSs Ps] (x : α) (hi : InsIn P C m F R) (hp : ∀ F' H', Same F F' → Same R H' → Same F' H' → New F F' R → pre x F' H') (he : args x = P :: Ps) (ha : Ev ta σ F R P) (hr : EvA tr σ F R Ps) :
    Ev (tMeth C m (FSp args pre res) [] E ta tr) σ F R (res x) := fun s H1 h1 Q k => ha s H1 h1 _ fun v H2 F1 u1 p1 => by
  obtain ⟨a, dx, fs, rfl, h, l⟩ := hi v F1 H2 u1.ff (h1.trans u1.hh) u1.fh p1
  refine ⟨a, dx, fs, rfl, h, l, hr s H2 (h1.trans u1.hh) _ fun vs H3 F2 u2 av => ?_⟩
  obtain ⟨u, e1, e2⟩ := u1.join u2
  refine ⟨x, _, u.fh, ?_, hp _ H3 u.ff (h1.trans u.hh) u.fh (fun a hn h0 => u.nw a (same_ne h1 hn) h0), fun w H4 F3 u3 r => k w H4 F3 (u.trans u3) r⟩
  rw [List.append_nil, he]
  exact .cons (up e1 p1) (MSs.mono e2 av)

/-! ### what is walked -/
/-- the iterator gives the things as, one after another, each told by g -/
def EvI {α : Type} (wi : TI) (σ : L2.St) (F R : Hp) (g : α → Rp) (as : List α) : Prop := Same F R → ∀ H1, Same R H1 → ∀ Q : It → Hp → Prop, (∀ J H2 F' G Y, Fut F F' H1 H2 → Walk J as.length G Y → (∀ H3, Same F' H3 → G H3) →
  (∀ (i : Nat) x Hc H', i < as.length → Same F' Hc → Y i Hc x H' → ∃ Fx a, as[i]? = some a ∧ Fut F' Fx Hc H' ∧ g a x Fx) → Q J H2) → wi σ H1 Q
theorem ei_list {α : Type} {f : α → Rp} [∀ a, MS (f a)] {l : List α} (ha : Ev ta σ F R (zL f l)) : EvI (iList K ta) σ F R f l := fun s H1 h1 Q k => ha s H1 h1 _ fun v H2 F' u px => by
  obtain ⟨p, us, rfl, hp, lp, zp, pp⟩ := zL_at px
  refine ⟨p, rfl, ⟨us, SqL.of (u.fh _ _ hp)⟩, k _ H2 F' (fun H => SqL K H p us) (YAt us) u ?_ (fun H3 s3 => SqL.of (s3 _ _ hp)) ?_⟩
  · rw [← lp]
    exact walk_list
  · rintro i x Hc H' hi s3 ⟨rfl, hx⟩
    obtain ⟨a, ha, q⟩ := paired_get' pp hx
    exact ⟨F', a, ha, Fut.refl s3, q⟩
theorem ei_tup {α : Type} {f : α → Rp} [∀ a, MS (f a)] {l : List α} (ha : Ev ta σ F R (zTl f l)) : EvI (iTup K ta) σ F R f l := fun s H1 h1 Q k => ha s H1 h1 _ fun v H2 F' u px => by
  obtain ⟨p, us, rfl, hp, pp, zp⟩ := px
  have lp := pp.length
  refine ⟨p, rfl, ⟨us, SqT.of (u.fh _ _ hp)⟩, k _ H2 F' (fun H => SqT K H p us) (YAt us) u ?_ (fun H3 s3 => SqT.of (s3 _ _ hp)) ?_⟩
  · rw [lp]
    exact walk_tup
  · rintro i x Hc H' hi s3 ⟨rfl, hx⟩
    obtain ⟨a, ha, q⟩ := paired_get' pp hx
    exact ⟨F', a, ha, Fut.refl s3, q⟩
theorem ei_rev {α : Type} {f : α → Rp} [∀ a, MS (f a)] {l : List α} (h : EvA tr σ F R [zL f l]) : EvI (iRev K tr) σ F R f l.reverse := fun s H1 h1 Q k => one_arg h s H1 h1 _ fun v H2 F' u px => by
  obtain ⟨p, us, rfl, hp, lp, zp, pp⟩ := zL_at px
  refine ⟨p, us, rfl, SqL.of (u.fh _ _ hp), k _ H2 F' (fun H => SqL K H p us) (fun i H x H' => H' = H ∧ us[us.length - 1 - i]? = some x) u ?_ (fun H3 s3 => SqL.of (s3 _ _ hp)) ?_⟩
  · rw [List.length_reverse, ← lp]
    exact walk_rev
  · rintro i x Hc H' hi s3 ⟨rfl, hx⟩
    obtain ⟨a, ha, q⟩ := paired_get' pp hx
    rw [List.length_reverse] at hi
    refine ⟨F', a, ?_, Fut.refl s3, q⟩
    rw [List.getElem?_reverse hi, ← lp]
    exact ha
theorem ei_range {n : Nat} (hn : n ≤ LB) (h : EvA tr σ F R [zN n]) : EvI (iRng1 tr) σ F R zN (List.range n) := fun s H1 h1 Q k => one_arg h s H1 h1 _ fun v H2 F' u px => by
  have px' : v = .int (n : Int) := px
  have hn' : n ≤ 20000 := hn
  refine ⟨n, by rw [px'], by omega, by omega, k _ H2 F' (fun _ => True) (YFn fun i => .int (0 + (i : Int))) u ?_ (fun _ _ => trivial) ?_⟩
  · rw [List.length_range, Int.toNat_natCast]
    exact walk_range
  · rintro i x Hc H' hi s3 ⟨rfl, hx⟩
    rw [List.length_range] at hi
    refine ⟨F', i, List.getElem?_range hi, Fut.refl s3, ?_⟩
    have e : (fun i : Nat => V.int (0 + (i : Int))) i = V.int (i : Int) := by
      show V.int (0 + (i : Int)) = _
      rw [Int.zero_add]
    exact hx.trans e
theorem ei_zip {α β : Type} {f : α → Rp} {g : β → Rp} [∀ a, MS (f a)] [∀ a, MS (g a)] {l : List α} {m : List β} (h : EvA tr σ F R [zL f l, zL g m]) : EvI (iZip K tr) σ F R (fun (x : α × β) => zT [f x.1, g x.2]) (l.zip m) := fun s H1 h1 Q k => h s H1 h1 _ fun vs H2 F' u pa => by
  cases pa with
  | cons px pa =>
    cases pa with
    | cons py pa =>
      cases pa
      obtain ⟨p, us, rfl, hp, lp, zp, pp⟩ := zL_at px
      obtain ⟨q, ws, rfl, hq, lq, zq, pq⟩ := zL_at py
      refine ⟨p, q, us, ws, rfl, SqL.of (u.fh _ _ hp), SqL.of (u.fh _ _ hq), k _ H2 F' (fun H => SqL K H p us ∧ SqL K H q ws) (YPair (fun i => us[i]?) (fun i => ws[i]?)) u ?_ (fun H3 s3 => ⟨SqL.of (s3 _ _ hp), SqL.of (s3 _ _ hq)⟩) ?_⟩
      · exact walk_zip (by rw [List.length_zip, lp, lq])
      · rintro i x Hc H' hi s3 ⟨T, x1, x2, rfl, hT, rfl, h1, h2⟩
        obtain ⟨a, ha, qa⟩ := paired_get' pp h1
        obtain ⟨b, hb, qb⟩ := paired_get' pq h2
        have fu := Fut.new (o := HO.tup [x1, x2]) s3 hT
        exact ⟨_, (a, b), by rw [List.getElem?_zip_eq_some]; exact ⟨ha, hb⟩, fu, T, _, rfl, upd_same, .cons (up fu.ff qa) (.cons (up fu.ff qb) .nil)⟩
theorem ei_enum {α : Type} {f : α → Rp} [∀ a, MS (f a)] {l : List α} (h : EvA tr σ F R [zL f l]) : EvI (iEnum K tr) σ F R (fun (x : α × Nat) => zT [zN x.2, f x.1]) l.zipIdx := fun s H1 h1 Q k => one_arg h s H1 h1 _ fun v H2 F' u px => by
  obtain ⟨p, us, rfl, hp, lp, zp, pp⟩ := zL_at px
  refine ⟨p, us, rfl, SqL.of (u.fh _ _ hp), k _ H2 F' (fun H => SqL K H p us) (YPair (fun i => some (.int (i : Nat))) (fun i => us[i]?)) u ?_ (fun H3 s3 => SqL.of (s3 _ _ hp)) ?_⟩
  · rw [List.length_zipIdx, ← lp]
    exact walk_enum
  · rintro i x Hc H' hi s3 ⟨T, x1, x2, rfl, hT, rfl, h1, h2⟩
    obtain ⟨a, ha, qa⟩ := paired_get' pp h2
    have h1' := Option.some.inj h1
    have fu := Fut.new (o := HO.tup [x1, x2]) s3 hT
    refine ⟨_, (a, i), ?_, fu, T, _, rfl, upd_same, .cons h1'.symm (.cons (up fu.ff qa) .nil)⟩
    rw [List.getElem?_zipIdx, ha]
    simp

/-! ### comprehensions -/
def Binds1 (tg : TG) (x : V) (σ0 σ2 : L2.St) (R1 : Hp) : Prop := ∀ (H' : Hp) (k : L2.St → Hp → Prop), Same R1 H' → k σ2 H' → tg x σ0 H' k
theorem b_name {i : Nat} {x : V} {σ0 : L2.St} {R1 : Hp} : Binds1 (gName i) x σ0 (σ0.set i (some x)) R1 := fun _ _ _ q => q
theorem b_two {i j : Nat} {x : V} {σ0 : L2.St} {F1 R1 : Hp} (s : Same F1 R1) (p : zT [P1, P2] x F1) : ∃ v w, P1 v F1 ∧ P2 w F1 ∧ Binds1 (gTup K 2 (gCons (gName i) (gCons (gName j) gNil))) x σ0 ((σ0.set i (some v)).set j (some w)) R1 := by
  obtain ⟨a, us, rfl, h, q⟩ := p
  cases q with
  | cons q1 q =>
    cases q with
    | cons q2 q =>
      cases q
      exact ⟨_, _, q1, q2, fun H' k s2 hk => ⟨a, _, rfl, SqT.of (s2 _ _ (s _ _ h)), rfl, _, _, rfl, _, _, rfl, rfl, hk⟩⟩
/-- what a turn shows -/
def TurnOk {β : Type} (tg : TG) (tt : TT) (te : TE) (vs : List Nat) (r : β → Rp) (σ : L2.St) (x : V) (b : Bool) (y : β) (F1 R1 : Hp) : Prop :=
  ∃ σ2, Binds1 tg x (wipe σ vs) σ2 R1 ∧ wipe σ2 vs = wipe σ vs ∧ EvT tt σ2 F1 R1 b ∧ (b = true → Ev te σ2 F1 R1 (r y))
theorem ev_lcN {α β : Type} {wi : TI} {tg : TG} {tt : TT} {vs : List Nat} {g : α → Rp} {as : List α} {r : β → Rp} [∀ b, MS (r b)] [∀ a, MS (g a)] (p : α → Bool) (h : α → β) (hl : as.length ≤ LB) (hi : EvI wi σ F R g as)
    (ht : ∀ a ∈ as, ∀ x F1 R1, Same F F1 → Same R R1 → Same F1 R1 → New F F1 R → g a x F1 → TurnOk tg tt te vs r σ x (p a) (h a) F1 R1) : Ev (tLc wi tg tt te vs) σ F R (zL r ((as.filter p).map h)) := fun s H1 h1 Q k => hi s H1 h1 _ fun J H2 F' G Y u w hG hy D hD => by
  have fD : F' D = none := same_none u.fh hD
  refine lc_it w (fun i Hc => ∃ Fi us, Fut F' Fi H2 Hc ∧ Fi D = none ∧ Hc D = some (.lst us) ∧ Paired (fun b v => r b v Fi) (((as.take i).filter p).map h) us) ?_ ?_ ?_ ?_
  · exact ⟨F', [], ⟨Same.refl _, same_upd u.fh hD, same_upd (Same.refl _) hD, fun _ _ n => n⟩, fD, upd_same, .nil⟩
  · rintro i Hc _ ⟨Fi, us, fu, _, _, _⟩
    exact hG Hc (fu.ff.trans fu.fh)
  · rintro i x Hc H' hlt ⟨Fi, us, fu, fd, hd, pr⟩ y
    obtain ⟨Fx, a, ha, fx, gx⟩ := hy i x Hc H' hlt (fu.ff.trans fu.fh) y
    obtain ⟨j, j1, j2⟩ := fu.join fx
    have dF1 : uni Fi Fx D = none := by
      unfold uni
      rw [fd]
      exact fx.nw D (by rw [hd]; exact fun z => by cases z) fD
    have ma : a ∈ as := List.mem_of_getElem? ha
    obtain ⟨σ2, bd, wp, et, ev⟩ := ht a ma x (uni Fi Fx) H' (u.ff.trans j.ff) ((h1.trans u.hh).trans j.hh) j.fh (fun b hb hn => (u.trans j).nw b (same_ne h1 hb) hn) (up j2 gx)
    have elen : us.length ≤ i := by
      rw [← pr.length, List.length_map]
      exact Nat.le_trans (List.length_filter_le _ _) (by rw [List.length_take]; exact Nat.min_le_left _ _)
    have htake : as.take (i + 1) = as.take i ++ [a] := by
      rw [List.take_add_one, ha]
      rfl
    refine bd H' _ (Same.refl _) ⟨wp, et j.fh H' (Same.refl _) _ fun H3 e3 => ?_⟩
    have hd' : H' D = some (.lst us) := fx.hh _ _ hd
    cases hb : p a with
    | false =>
      show ∃ Fi us, _
      refine ⟨uni Fi Fx, us, j.trans (Fut.grow j.fh e3), dF1, e3 _ _ hd', ?_⟩
      rw [htake, List.filter_append, List.filter_cons, hb]
      show Paired _ (((as.take i).filter p ++ []).map h) us
      rw [List.append_nil]
      exact paired_up j1 pr
    | true =>
      refine ev hb j.fh H3 e3 _ fun v H4 F4 u4 r4 => ⟨us, u4.hh _ _ (e3 _ _ hd'), LB_lt (Nat.le_trans elen (Nat.le_trans (Nat.le_of_lt hlt) hl)), ?_⟩
      have d4 : F4 D = none := u4.nw D (by rw [e3 _ _ hd']; exact fun z => by cases z) dF1
      have j4 : Fut F' F4 H2 H4 := j.trans (Fut.trans (Fut.grow j.fh e3) u4)
      refine ⟨F4, us ++ [v], ⟨j4.ff, fun x o e => ?_, fun x o e => ?_, j4.nw⟩, d4, upd_same, ?_⟩
      · rw [upd_ne (ne_of_none e d4)]
        exact j4.fh x o e
      · rw [upd_ne (ne_of_none e hD)]
        exact j4.hh x o e
      · rw [htake, List.filter_append, List.filter_cons, hb, List.map_append]
        exact paired_app (paired_up (j1.trans u4.ff) pr) (.cons r4 .nil)
  · rintro Hc ⟨Fi, us, fu, fd, hd, pr⟩
    rw [List.take_length] at pr
    have fin := Fut.add (p := D) (o := .lst us) fu hD hd fd u.fh
    refine k _ Hc _ (u.trans fin) ⟨D, us, rfl, upd_same, paired_up (same_upd (Same.refl _) fd) pr, ?_⟩
    rw [List.length_map]
    exact Nat.le_trans (List.length_filter_le _ _) hl
theorem ev_lc {α β : Type} {wi : TI} {tg : TG} {tt : TT} {vs : List Nat} {g : α → Rp} {as : List α} {r : β → Rp} [∀ b, MS (r b)] [∀ a, MS (g a)] (p : α → Bool) (h : α → β) (hl : as.length ≤ LB) (hi : EvI wi σ F R g as)
    (ht : ∀ a ∈ as, ∀ x F1 R1, Same F F1 → Same R R1 → Same F1 R1 → g a x F1 → TurnOk tg tt te vs r σ x (p a) (h a) F1 R1) : Ev (tLc wi tg tt te vs) σ F R (zL r ((as.filter p).map h)) :=
  ev_lcN p h hl hi fun a ha x F1 R1 s1 s2 s3 _ q => ht a ha x F1 R1 s1 s2 s3 q
/-- nothing left out -/
theorem ev_lcA {α β : Type} {wi : TI} {tg : TG} {vs : List Nat} {g : α → Rp} {as : List α} {r : β → Rp} [∀ b, MS (r b)] [∀ a, MS (g a)] (h : α → β) (hl : as.length ≤ LB) (hi : EvI wi σ F R g as)
    (ht : ∀ a ∈ as, ∀ x F1 R1, Same F F1 → Same R R1 → Same F1 R1 → g a x F1 → ∃ σ2, Binds1 tg x (wipe σ vs) σ2 R1 ∧ wipe σ2 vs = wipe σ vs ∧ Ev te σ2 F1 R1 (r (h a))) : Ev (tLc wi tg tYes te vs) σ F R (zL r (as.map h)) := by
  have := ev_lc (te := te) (tt := tYes) (fun _ => true) h hl hi fun a ha x F1 R1 s1 s2 s3 q => by
    obtain ⟨σ2, b1, b2, b3⟩ := ht a ha x F1 R1 s1 s2 s3 q
    exact ⟨σ2, b1, b2, et_yes, fun _ => b3⟩
  rw [List.filter_eq_self.mpr (fun _ _ => rfl)] at this
  exact this
end
end G
end

section
set_option Elab.async false
set_option linter.all false
set_option maxRecDepth 100000
set_option maxHeartbeats 4000000
namespace G
open PySem PySem.Spec PyProof.Rows L2

section
variable {K : PySem.W.Frag} {σ : L2.St} {F R H : Hp} {ta tb tc te tv : TE} {t u : TT} {tr : TA} {P P1 P2 : Rp} {Ps : List Rp} {D : Ends} {tu tw tz : TS} {tg : TG}
/-! ### statements -/
theorem s_ret (s : Same F H) (h : Ev te σ F H P) (k : ∀ v H1 F1, Fut F F1 H H1 → P v F1 → D.rt v H1) : tRet te D σ H := h s H (Same.refl H) _ k
theorem s_asg {i : Nat} (s : Same F H) (h : Ev te σ F H P) (k : ∀ v H1 F1, Fut F F1 H H1 → P v F1 → D.nx (σ.set i (some v)) H1) : tAsg te (gName i) D σ H := h s H (Same.refl H) _ k
theorem q_asg {i : Nat} (s : Same F H) (h : Ev te σ F H P) (k : ∀ v H1 F1, Fut F F1 H H1 → P v F1 → tz D (σ.set i (some v)) H1) : tSeq (tAsg te (gName i)) tz D σ H := s_asg (D := { D with nx := tz D }) s h k
theorem s_asg2 {i j : Nat} [MS P1] [MS P2] (s : Same F H) (h : Ev te σ F H (zT [P1, P2])) (k : ∀ v w H1 F1, Fut F F1 H H1 → P1 v F1 → P2 w F1 → D.nx ((σ.set i (some v)).set j (some w)) H1) : tAsg te (gTup K 2 (gCons (gName i) (gCons (gName j) gNil))) D σ H :=
  h s H (Same.refl H) _ fun v H1 F1 u p => by
    obtain ⟨x, y, q1, q2, b⟩ := b_two (K := K) (i := i) (j := j) (σ0 := σ) u.fh p
    exact b H1 _ (Same.refl H1) (k x y H1 F1 u q1 q2)
theorem q_asg2 {i j : Nat} [MS P1] [MS P2] (s : Same F H) (h : Ev te σ F H (zT [P1, P2])) (k : ∀ v w H1 F1, Fut F F1 H H1 → P1 v F1 → P2 w F1 → tz D ((σ.set i (some v)).set j (some w)) H1) : tSeq (tAsg te (gTup K 2 (gCons (gName i) (gCons (gName j) gNil)))) tz D σ H :=
  s_asg2 (D := { D with nx := tz D }) s h k
theorem s_if {b : Bool} (s : Same F H) (h : EvT t σ F H b) (h1 : b = true → ∀ H1, Fut F F H H1 → tu D σ H1) (h2 : b = false → ∀ H1, Fut F F H H1 → tw D σ H1) : tIfS t tu tw D σ H := h s H (Same.refl H) _ fun H1 e => by
  cases b with
  | true =>
    show tu D σ H1
    exact h1 rfl H1 (Fut.grow s e)
  | false =>
    show tw D σ H1
    exact h2 rfl H1 (Fut.grow s e)
theorem q_if {b : Bool} (s : Same F H) (h : EvT t σ F H b) (h1 : b = true → ∀ H1, Fut F F H H1 → tu { D with nx := tz D } σ H1) (h2 : b = false → ∀ H1, Fut F F H H1 → tw { D with nx := tz D } σ H1) : tSeq (tIfS t tu tw) tz D σ H := s_if (D := { D with nx := tz D }) s h h1 h2
theorem q_when {b : Bool} (s : Same F H) (h : EvT t σ F H b) (h1 : b = true → ∀ H1, Fut F F H H1 → tu { D with nx := tz D } σ H1) (h2 : b = false → ∀ H1, Fut F F H H1 → tz D σ H1) : tSeq (tIfS t tu tNext) tz D σ H := s_if (D := { D with nx := tz D }) s h h1 h2
theorem s_drop (s : Same F H) (h : Ev te σ F H P) (k : ∀ v H1 F1, Fut F F1 H H1 → P v F1 → D.nx σ H1) : tDrop te D σ H := h s H (Same.refl H) _ k
theorem q_drop (s : Same F H) (h : Ev te σ F H P) (k : ∀ v H1 F1, Fut F F1 H H1 → P v F1 → tz D σ H1) : tSeq (tDrop te) tz D σ H := s_drop (D := { D with nx := tz D }) s h k
/-- xs.append(e), xs a list that may change -/
theorem s_app {i : Nat} {l : Addr} {us : List V} (s : Same F H) (hi : σ[i]? = some (some (.ref l))) (hl : H l = some (.lst us)) (hf : F l = none) (hz : us.length < sizeLine) (h : Ev te σ F H P)
    (k : ∀ v H1 F1, Fut F F1 H H1 → P v F1 → F1 l = none → Same F1 (upd H1 l (.lst (us ++ [v]))) → D.nx σ (upd H1 l (.lst (us ++ [v])))) : tDrop (tBM K "list" rAppend (tVar i) (tCons te tNil)) D σ H :=
  ⟨.ref l, hi, .inl ⟨rfl, _, SqL.of hl⟩, h s H (Same.refl H) _ fun v H1 F1 u p => by
    have f1 : F1 l = none := u.nw l (by rw [hl]; exact fun z => by cases z) hf
    refine ⟨l, us, v, rfl, rfl, u.hh _ _ hl, hz, k v H1 F1 u p f1 fun a o e => ?_⟩
    rw [upd_ne (ne_of_none e f1)]
    exact u.fh a o e⟩
theorem q_app {i : Nat} {l : Addr} {us : List V} (s : Same F H) (hi : σ[i]? = some (some (.ref l))) (hl : H l = some (.lst us)) (hf : F l = none) (hz : us.length < sizeLine) (h : Ev te σ F H P)
    (k : ∀ v H1 F1, Fut F F1 H H1 → P v F1 → F1 l = none → Same F1 (upd H1 l (.lst (us ++ [v]))) → tz D σ (upd H1 l (.lst (us ++ [v])))) : tSeq (tDrop (tBM K "list" rAppend (tVar i) (tCons te tNil))) tz D σ H := s_app (D := { D with nx := tz D }) s hi hl hf hz h k
/-- xs.extend(ys) -/
theorem s_ext {α : Type} {f : α → Rp} {m : List α} {i : Nat} {l : Addr} {us : List V} (s : Same F H) (hi : σ[i]? = some (some (.ref l))) (hl : H l = some (.lst us)) (hf : F l = none) (hz : us.length + m.length ≤ sizeLine) (h : Ev te σ F H (zL f m))
    (k : ∀ ws H1 F1, Fut F F1 H H1 → Paired (fun a u => f a u F1) m ws → F1 l = none → Same F1 (upd H1 l (.lst (us ++ ws))) → D.nx σ (upd H1 l (.lst (us ++ ws)))) : tDrop (tBM K "list" rExtend (tVar i) (tCons te tNil)) D σ H :=
  ⟨.ref l, hi, .inl ⟨rfl, _, SqL.of hl⟩, h s H (Same.refl H) _ fun v H1 F1 u p => by
    have f1 : F1 l = none := u.nw l (by rw [hl]; exact fun z => by cases z) hf
    obtain ⟨b, ws, rfl, hb, q, z⟩ := p
    refine ⟨l, b, us, ws, rfl, rfl, u.hh _ _ hl, u.fh _ _ hb, by rw [← q.length]; exact hz, k ws H1 F1 u q f1 fun a o e => ?_⟩
    rw [upd_ne (ne_of_none e f1)]
    exact u.fh a o e⟩
theorem q_ext {α : Type} {f : α → Rp} {m : List α} {i : Nat} {l : Addr} {us : List V} (s : Same F H) (hi : σ[i]? = some (some (.ref l))) (hl : H l = some (.lst us)) (hf : F l = none) (hz : us.length + m.length ≤ sizeLine) (h : Ev te σ F H (zL f m))
    (k : ∀ ws H1 F1, Fut F F1 H H1 → Paired (fun a u => f a u F1) m ws → F1 l = none → Same F1 (upd H1 l (.lst (us ++ ws))) → tz D σ (upd H1 l (.lst (us ++ ws)))) : tSeq (tDrop (tBM K "list" rExtend (tVar i) (tCons te tNil))) tz D σ H := s_ext (D := { D with nx := tz D }) s hi hl hf hz h k
/-- x = [], a list that may change -/
theorem q_new {i : Nat} (s : Same F H) (k : ∀ l, H l = none → Same F (upd H l (.lst [])) → tz D (σ.set i (some (.ref l))) (upd H l (.lst []))) : tSeq (tAsg (tLst tNil) (gName i)) tz D σ H := by
  exact ⟨Nat.zero_le _, fun p hp => k p hp (same_upd s hp)⟩
/-- o.f = e, o an object that may change -/
theorem s_fld {C dx a : Addr} {f : Str} {fs : List (Str × V)} (s : Same F H) (hv : Ev tv σ F H P) (ha : Ev ta σ F H (zAt a)) [MS P] (h : H a = some (.ins C dx fs)) (hf : F a = none) (c : Cls K C) (n : NoAttr K C f) (z : fs.length < 1000)
    (k : ∀ v H1 F1, Fut F F1 H H1 → P v F1 → F1 a = none → Same F1 (upd H1 a (.ins C dx (putF f v fs))) → D.nx σ (upd H1 a (.ins C dx (putF f v fs)))) : sFld K ta tv f D σ H :=
  hv s H (Same.refl H) _ fun v H1 F1 u1 p1 => ha s H1 u1.hh _ fun x H2 F2 u2 p2 => by
    have p2' : x = .ref a := p2
    subst p2'
    obtain ⟨u, e1, e2⟩ := u1.join u2
    have f1 := u.nw a (by rw [h]; exact fun z => by cases z) hf
    refine ⟨a, C, dx, fs, rfl, u.hh _ _ h, c, n, z, k v H2 _ u (up e1 p1) f1 fun b o e => ?_⟩
    rw [upd_ne (ne_of_none e f1)]
    exact u.fh b o e
theorem q_fld {C dx a : Addr} {f : Str} {fs : List (Str × V)} (s : Same F H) (hv : Ev tv σ F H P) (ha : Ev ta σ F H (zAt a)) [MS P] (h : H a = some (.ins C dx fs)) (hf : F a = none) (c : Cls K C) (n : NoAttr K C f) (z : fs.length < 1000)
    (k : ∀ v H1 F1, Fut F F1 H H1 → P v F1 → F1 a = none → Same F1 (upd H1 a (.ins C dx (putF f v fs))) → tz D σ (upd H1 a (.ins C dx (putF f v fs)))) : tSeq (sFld K ta tv f) tz D σ H := s_fld (D := { D with nx := tz D }) s hv ha h hf c n z k

/-! ### loops -/
/-- a for: I by the turn, the slots, what stands still, what stands -/
theorem uni_same {A B H : Hp} (ha : Same A H) (hb : Same B H) : Same (uni A B) H := fun a o e => by
  unfold uni at e
  cases q : A a with
  | none =>
    rw [q] at e
    exact hb a o e
  | some u =>
    rw [q] at e
    cases e
    exact ha a _ q
theorem s_for {α : Type} {wi : TI} {g : α → Rp} {as : List α} (s : Same F H) (hi : EvI wi σ F H g as)
    (k : ∀ H1 F1, Fut F F1 H H1 → ∃ I : Nat → L2.St → Hp → Hp → Prop, I 0 σ F1 H1 ∧ (∀ i σ' F' H', I i σ' F' H' → Same F1 F' ∧ Same F' H') ∧
      (∀ i a x σ' F' Hc F2 H2, as[i]? = some a → I i σ' F' Hc → Fut F' F2 Hc H2 → g a x F2 → tg x σ' H2 fun σ2 H3 => tu { D with nx := fun σ H => ∃ F, I (i + 1) σ F H, ct := fun σ H => ∃ F, I (i + 1) σ F H, bk := D.nx } σ2 H3) ∧
      (∀ σ' F' H', I as.length σ' F' H' → D.nx σ' H')) [∀ a, MS (g a)] : tFor wi tg tu D σ H := hi s H (Same.refl H) _ fun J H1 F1 G Y u w hG hy => by
  obtain ⟨I, h0, hs, ht, hd⟩ := k H1 F1 u
  refine for_it w (fun i σ' H' => ∃ F', I i σ' F' H') ⟨F1, h0⟩ (fun i σ' H' _ ⟨F', q⟩ => hG H' ((hs i σ' F' H' q).1.trans (hs i σ' F' H' q).2)) ?_ (fun σ' H' ⟨F', q⟩ => hd σ' F' H' q)
  rintro i x σ' Hc H' hlt ⟨F', q⟩ y
  obtain ⟨s1, s2⟩ := hs i σ' F' Hc q
  obtain ⟨Fx, a, ha, fx, gx⟩ := hy i x Hc H' hlt (s1.trans s2) y
  have e1 : Same F' H' := s2.trans fx.hh
  refine ht i a x σ' F' Hc (uni F' Fx) H' ha q ⟨same_uni_l _ _, uni_same e1 fx.fh, fx.hh, fun b hb n => ?_⟩ (up (same_uni_r e1 fx.fh) gx)
  unfold uni
  rw [n]
  exact fx.nw b hb (s1.free n)
theorem q_for {α : Type} {wi : TI} {g : α → Rp} {as : List α} [∀ a, MS (g a)] (s : Same F H) (hi : EvI wi σ F H g as)
    (k : ∀ H1 F1, Fut F F1 H H1 → ∃ I : Nat → L2.St → Hp → Hp → Prop, I 0 σ F1 H1 ∧ (∀ i σ' F' H', I i σ' F' H' → Same F1 F' ∧ Same F' H') ∧
      (∀ i a x σ' F' Hc F2 H2, as[i]? = some a → I i σ' F' Hc → Fut F' F2 Hc H2 → g a x F2 → tg x σ' H2 fun σ2 H3 => tu { D with nx := fun σ H => ∃ F, I (i + 1) σ F H, ct := fun σ H => ∃ F, I (i + 1) σ F H, bk := tz D } σ2 H3) ∧
      (∀ σ' F' H', I as.length σ' F' H' → tz D σ' H')) : tSeq (tFor wi tg tu) tz D σ H := s_for (D := { D with nx := tz D }) s hi k
/-- a while: I by a measure -/
theorem q_while {m0 : Nat} (I : Nat → L2.St → Hp → Hp → Prop) (h0 : I m0 σ F H)
    (hs : ∀ m σ' F' H', I m σ' F' H' → Same F' H' ∧ ∃ b, EvT t σ' F' H' b ∧ (b = true → ∀ H1, Fut F' F' H' H1 → tu { D with nx := fun σ H => ∃ m' F, m' < m ∧ I m' σ F H, ct := fun σ H => ∃ m' F, m' < m ∧ I m' σ F H, bk := tz D } σ' H1) ∧ (b = false → ∀ H1, Fut F' F' H' H1 → tz D σ' H1)) : tSeq (tWhile t tu) tz D σ H := by
  refine ⟨fun m σ H => ∃ F, I m σ F H, ⟨m0, F, h0⟩, ?_⟩
  rintro m σ' H' ⟨F', q⟩
  obtain ⟨s, b, et, h1, h2⟩ := hs m σ' F' H' q
  refine et s H' (Same.refl _) _ fun H1 e => ?_
  cases b with
  | true =>
    show ∃ N : L2.St → Hp → Prop, _
    exact ⟨fun σ H => ∃ m' F, m' < m ∧ I m' σ F H, fun σ2 H2 ⟨m', F2, l, q2⟩ => ⟨m', l, F2, q2⟩, h1 rfl H1 (Fut.grow s e)⟩
  | false => exact h2 rfl H1 (Fut.grow s e)
end
end G
end

section
set_option Elab.async false
set_option linter.all false
set_option maxRecDepth 100000
set_option maxHeartbeats 4000000
namespace G
open PySem PySem.Spec PyProof.Rows L2

/-! ### the defs of the text, as those who call them see them -/
/-- a def of the top, named gn there -/
def GFun (K : PySem.W.Frag) (mg : Str → Option Value) (gn name : Str) (st : Stmt) (ps : List Str) : Prop := ∃ f fd, Fun K name name st f fd ∧ Binds K fd ps [] ∧ mg gn = some (.ref f)
/-- a method of the class at C -/
def MFun (K : PySem.W.Frag) (C : Addr) (name qual : Str) (st : Stmt) (ps : List Str) : Prop := ∃ f fd, Fun K name qual st f fd ∧ Binds K fd ps [] ∧ Cls K C ∧ Meth K C name f
/-- a class's __init__ -/
def IFun (K : PySem.W.Frag) (mg : Str → Option Value) (C : Addr) (cn qual : Str) (st : Stmt) (ps : List Str) : Prop := ∃ f fd, Fun K "__init__" qual st f fd ∧ Binds K fd ps [] ∧ Mk K C f ∧ mg cn = some (.ref C)
section
variable {P : Program} {w : World} {K : PySem.W.Frag} {mg : Str → Option Value} {base : Heap}
structure CF (P : Program) (w : World) (K : PySem.W.Frag) (mg : Str → Option Value) (base : Heap) (CX : CXT) (k : Nat) (gn : Str) (ps : List Str) (sp : Sp) : Prop where
  ex : ∃ f fd, FnOk P w K mg base CX k f fd ps sp ∧ Binds K fd ps [] ∧ mg gn = some (.ref f) ∧ PySem.W.keepIn K (.ref f) = true
structure MF (P : Program) (w : World) (K : PySem.W.Frag) (mg : Str → Option Value) (base : Heap) (CX : CXT) (k : Nat) (C : Addr) (m : Str) (ps : List Str) (sp : Sp) : Prop where
  ex : ∃ f fd, FnOk P w K mg base CX k f fd ps sp ∧ Binds K fd ps [] ∧ Cls K C ∧ Meth K C m f
structure IF (P : Program) (w : World) (K : PySem.W.Frag) (mg : Str → Option Value) (base : Heap) (CX : CXT) (k : Nat) (C : Addr) (cn : Str) (ps : List Str) (sp : Sp) : Prop where
  ex : ∃ f fd, FnOk P w K mg base CX k f fd ps sp ∧ Binds K fd ps [] ∧ Mk K C f ∧ mg cn = some (.ref C)
theorem GFun.cf {CX : CXT} {k : Nat} {gn name : Str} {st : Stmt} {ps : List Str} {sp : Sp} (G : GFun K mg gn name st ps) (h : ∀ f fd, Fun K name name st f fd → FnOk P w K mg base CX k f fd ps sp) : CF P w K mg base CX k gn ps sp := by
  obtain ⟨f, fd, a, b, c⟩ := G
  exact ⟨f, fd, h f fd a, b, c, a.kp⟩
theorem MFun.mf {CX : CXT} {k : Nat} {C : Addr} {name qual : Str} {st : Stmt} {ps : List Str} {sp : Sp} (G : MFun K C name qual st ps) (h : ∀ f fd, Fun K name qual st f fd → FnOk P w K mg base CX k f fd ps sp) : MF P w K mg base CX k C name ps sp := by
  obtain ⟨f, fd, a, b, c, d⟩ := G
  exact ⟨f, fd, h f fd a, b, c, d⟩
theorem IFun.if {CX : CXT} {k : Nat} {C : Addr} {cn qual : Str} {st : Stmt} {ps : List Str} {sp : Sp} (G : IFun K mg C cn qual st ps) (h : ∀ f fd, Fun K "__init__" qual st f fd → FnOk P w K mg base CX k f fd ps sp) : IF P w K mg base CX k C cn ps sp := by
  obtain ⟨f, fd, a, b, c, d⟩ := G
  exact ⟨f, fd, h f fd a, b, c, d⟩
/-- the body of a def that keeps a promise of the kind FSp -/
theorem body_ok {α : Type} {args : α → List Rp} {pre : α → Hp → Hp → Prop} {res : α → Rp} {name qual : Str} {st : Stmt} {ps N : List Str} {k : Nat} {f : Addr} {fd : FuncData} (Fn : Fun K name qual st f fd) (S : FnScope N ps (defScope st)) (hl : ∀ x, (args x).length = ps.length)
    (hb : ∀ (cdv : Value) (A : Around) (outer : List Env) (s : Shared) (H : Hp) (E : XK), Room k (A.deeper (envOfC qual (defScope st) s.heap.objs.size f cdv)) →
      ∃ t, PSs (cxOf CX0 P w K mg base N qual (defScope st) f cdv A outer s H E).nox (defBody st) t ∧
        ∀ (x : α) (F : Hp) (vs : List V) (Q : VK), Same F H → AllR (args x) vs F → pre x F H → (∀ v H2 F', Fut F F' H H2 → res x v F' → Q v H2) → t { nx := fun _ H' => Q .non H', rt := Q } (start N vs) H) :
    FnOk P w K mg base CX0 (k + 1) f fd ps (FSp args pre res) := by
  refine Fn.ok S (fun vs H Q E h => ?_) (fun cdv A outer s H vs Q E hr h => ?_)
  · obtain ⟨x, F, _, a, _⟩ := h
    rw [a.len, hl]
  · obtain ⟨x, F, s1, a, p, q⟩ := h
    obtain ⟨t, h1, h2⟩ := hb cdv A outer s H E hr
    exact ⟨t, h1, h2 x F vs Q s1 a p q⟩
/-- pre: nothing more is asked -/
abbrev noPre {α : Type} : α → Hp → Hp → Prop := fun _ _ _ => True
end
section
variable {X : Cx} {CX : CXT} {k : Nat} {ps : List Str} {sp : Sp} {E : XK} {x m : Str} {C : Addr} {p pos apos : Pos} {e o : Expr} {es : List Expr} {ta : TE} {t : TA}
theorem pe_callF (c : CF X.prog X.w X.K X.mg X.base CX k x ps sp) (hr : Room k X.A) (hx : Passes CX X E) (ha : PA X (e :: es) t) (hg : Gl X x := by rfl)
    (hdb : (x == ("__debug__" : Str)) = false := by decide) (he : starEach (e :: es) X.env = (false, eval e X.env) :: starEach es X.env := by rfl) (hpl : (backTo pos (starEach es X.env)).any (·.1) = false := by rfl) :
    PE X (.Call (.Name x p) (e :: es) [] pos) (tCall sp [] E t) := by
  obtain ⟨f, fd, h1, h2, h3, h4⟩ := c.ex
  exact pe_call h1 hr hg h3 h4 h2 .nil hx ha hdb he hpl
theorem pe_callF0 (c : CF X.prog X.w X.K X.mg X.base CX k x ps sp) (hr : Room k X.A) (hx : Passes CX X E) (hg : Gl X x := by rfl)
    (hdb : (x == ("__debug__" : Str)) = false := by decide) : PE X (.Call (.Name x p) [] [] pos) (tCall sp [] E tNil) := by
  obtain ⟨f, fd, h1, h2, h3, h4⟩ := c.ex
  exact pe_call0 h1 hr hg h3 h4 h2 .nil hx hdb
theorem pe_methF {pl : Sem Bool} (c : MF X.prog X.w X.K X.mg X.base CX k C m ps sp) (hr : Room k X.A) (hx : Passes CX X E) (he : PE X o ta) (ha : PA X (e :: es) t)
    (hst : starEach (e :: es) X.env = (false, eval e X.env) :: starEach es X.env := by rfl) (hpl : (backTo pos (starEach es X.env)).any (·.1) = false := by rfl)
    (ht : eval (.Call (.Attribute o m apos) (e :: es) [] pos) X.env = (do
      let ov ← eval o X.env
      standAt apos.atName
      let (f, first) ← holding [ov] (getMethod ov m pl)
      callWith pos f first (backTo pos (starEach (e :: es) X.env)) (backToKw pos (keywordEach [] X.env))) := by rfl) :
    PE X (.Call (.Attribute o m apos) (e :: es) [] pos) (tMeth C m sp [] E ta t) := by
  obtain ⟨f, fd, h1, h2, h3, h4⟩ := c.ex
  exact pe_meth he h3 h4 h1 hr h2 .nil hx ha hst hpl ht
theorem pe_methF0 {pl : Sem Bool} (c : MF X.prog X.w X.K X.mg X.base CX k C m ps sp) (hr : Room k X.A) (hx : Passes CX X E) (he : PE X o ta)
    (ht : eval (.Call (.Attribute o m apos) [] [] pos) X.env = (do
      let ov ← eval o X.env
      standAt apos.atName
      let (f, first) ← holding [ov] (getMethod ov m pl)
      callWith pos f first (backTo pos (starEach [] X.env)) (backToKw pos (keywordEach [] X.env))) := by rfl) :
    PE X (.Call (.Attribute o m apos) [] [] pos) (tMeth C m sp [] E ta tNil) := by
  obtain ⟨f, fd, h1, h2, h3, h4⟩ := c.ex
  exact pe_meth0 he h3 h4 h1 hr h2 .nil hx ht
theorem pe_makeF (c : IF X.prog X.w X.K X.mg X.base CX k C x ps sp) (hr : Room (k + 1) X.A) (hx : Passes CX X E) (ha : PA X (e :: es) t) (hg : Gl X x := by rfl)
    (hdb : (x == ("__debug__" : Str)) = false := by decide) (he : starEach (e :: es) X.env = (false, eval e X.env) :: starEach es X.env := by rfl) (hpl : (backTo pos (starEach es X.env)).any (·.1) = false := by rfl) :
    PE X (.Call (.Name x p) (e :: es) [] pos) (tMake C sp [] E t) := by
  obtain ⟨f, fd, h1, h2, h3, h4⟩ := c.ex
  exact pe_make h3 h1 hr hg h4 h2 .nil hx ha hdb he hpl
theorem pe_makeF0 (c : IF X.prog X.w X.K X.mg X.base CX k C x ps sp) (hr : Room (k + 1) X.A) (hx : Passes CX X E) (hg : Gl X x := by rfl)
    (hdb : (x == ("__debug__" : Str)) = false := by decide) : PE X (.Call (.Name x p) [] [] pos) (tMake C sp [] E tNil) := by
  obtain ⟨f, fd, h1, h2, h3, h4⟩ := c.ex
  exact pe_make0 h3 h1 hr hg h4 h2 .nil hx hdb
end
end G
end

section
set_option Elab.async false
set_option linter.all false
set_option maxRecDepth 100000
set_option maxHeartbeats 4000000
/-! rules that the layer lacks -/
namespace L2
open PySem PySem.Spec PyProof.Rows
section
variable {X : Cx}
/-- xs == [], xs != [], whatever the items of xs are -/
def rEqNil (K : PySem.W.Frag) (neg : Bool) : R2 := fun x y H Q => ∃ a b xs, x = .ref a ∧ y = .ref b ∧ SqL K H a xs ∧ SqL K H b [] ∧ Q (.bl (if neg then !xs.isEmpty else xs.isEmpty)) H
theorem op_eqNil (hu : X.A.units + 64 < cLine) : OpR X (compareOp .Eq) (rEqNil X.K false) := by
  intro pins s σ H x y v u Q I rx ry h
  obtain ⟨a, b, xs, rfl, rfl, h1, h2, q⟩ := h
  cases rx
  cases ry
  obtain ⟨its, r1, p1, z1⟩ := I.list h1
  obtain ⟨its2, r2, p2, z2⟩ := I.list h2
  cases r2
  have hu' : X.A.units < cLine := by omega
  cases r1 with
  | nil => exact SeqAt.eq_listAt (e := fun _ => true) p1.isList p2.isList rfl hu' (fun j h1 => absurd h1 (by simp)) ⟨.bl true, H, I, rfl, q⟩
  | cons r t => exact SeqAt.eq_list_lengthsAt p1.isList p2.isList (by simp) hu' ⟨.bl false, H, I, rfl, q⟩
theorem op_neNil (hu : X.A.units + 64 < cLine) : OpR X (compareOp .NotEq) (rEqNil X.K true) := by
  intro pins s σ H x y v u Q I rx ry h
  obtain ⟨a, b, xs, rfl, rfl, h1, h2, q⟩ := h
  cases rx
  cases ry
  obtain ⟨its, r1, p1, z1⟩ := I.list h1
  obtain ⟨its2, r2, p2, z2⟩ := I.list h2
  cases r2
  have hu' : X.A.units < cLine := by omega
  cases r1 with
  | nil => exact SeqAt.RcNeAt.lists (e := fun _ => true) p1.isList p2.isList rfl hu' (fun j h1 => absurd h1 (by simp)) _ _ _ _ ⟨.bl false, H, I, rfl, q⟩
  | cons r t => exact SeqAt.RcNeAt.lists_lengths p1.isList p2.isList (by simp) hu' _ _ _ _ ⟨.bl true, H, I, rfl, q⟩
end
end L2
namespace G
open PySem PySem.Spec PyProof.Rows L2
section
variable {K : PySem.W.Frag} {σ : L2.St} {F R : Hp} {ta tb : TE}
theorem ev_eqNil {α β : Type} {f : α → Rp} {g : β → Rp} [∀ a, MS (f a)] [∀ a, MS (g a)] {neg : Bool} {l : List α} (ha : Ev ta σ F R (zL f l)) (hb : Ev tb σ F R (zL g [])) : Ev (tOp (rEqNil K neg) ta tb) σ F R (zB (if neg then !l.isEmpty else l.isEmpty)) := fun s H1 h1 Q k =>
  ev_two ha hb s h1 (Q := Q) fun x y H3 F' u px qx => by
    obtain ⟨p, us, rfl, hp, lp, zp, pp⟩ := zL_at px
    obtain ⟨q, ws, rfl, hq, lq, zq, pq⟩ := zL_at qx
    cases pq
    refine ⟨p, q, us, rfl, rfl, SqL.of (u.fh _ _ hp), SqL.of (u.fh _ _ hq), ?_⟩
    have e : us.isEmpty = l.isEmpty := by
      cases us <;> cases l <;> simp at lp ⊢
    rw [e]
    exact k _ H3 F' u rfl
end
end G
end

section
set_option Elab.async false
set_option linter.all false
set_option maxRecDepth 100000
set_option maxHeartbeats 4000000
namespace L2
open PySem PySem.Spec PyProof.Rows
section
variable {X : Cx} {β : Type}
theorem each_of {R : V → β → Prop} {R' : Value → β → Prop} (hR : ∀ u v b, R u b → RelV u v → R' v b) : ∀ {us : List V} {its : List Value} {bs : List β}, Paired (fun b u => R u b) bs us → Vals us its → PySem.W.EachIs R' its bs
  | _, _, _, .nil, .nil => .nil
  | _, _, _, .cons p q, .cons r t => .cons (hR _ _ _ p r) (each_of hR q t)
theorem paired_zip {α γ : Type} {R : α → γ → Prop} : ∀ {l : List α} {m : List γ}, Paired R l m → Paired (fun a c => (a, c) ∈ l.zip m ∧ R a c) l m
  | _, _, .nil => .nil
  | _, _, .cons p q => .cons ⟨by simp, p⟩ (Paired.mono (fun _ _ h => ⟨by rw [List.zip_cons_cons]; exact List.mem_cons_of_mem _ h.1, h.2⟩) (paired_zip q))
theorem each_split {R : V → β → Prop} : ∀ {out : List Value} {cs : List β}, PySem.W.EachIs (fun v b => ∃ u, RelV u v ∧ R u b) out cs → ∃ ws : List V, Vals ws out ∧ Paired (fun b u => R u b) cs ws
  | _, _, .nil => ⟨[], .nil, .nil⟩
  | _, _, .cons ⟨u, r, p⟩ t => by
    obtain ⟨ws, a, b⟩ := each_split t
    exact ⟨u :: ws, .cons r a, .cons p b⟩
/-- sorted(xs), xs a list of data alike: one new list, the items in order -/
def rSortD (K : PySem.W.Frag) (enc : β → PyData) : List V → Hp → VK → Prop := fun vs H Q => ∃ (a : Addr) (us : List V) (bs : List β), vs = [.ref a] ∧ SqL K H a us ∧ Paired (fun b u => Dp K H u (enc b)) bs us ∧ PySem.W.AllAlike (bs.map enc) ∧ PySem.W.Sortable (bs.map enc) ∧ (∀ b ∈ bs, (enc b).depth ≤ 10) ∧
  ∀ (ws : List V) (p : Addr), Paired (fun b w => (b, w) ∈ bs.zip us) (bs.mergeSort (PySem.W.dataLe false enc)) ws → H p = none → Q (.ref p) (upd H p (.lst ws))
theorem cr_sortD (enc : β → PyData) (hu : X.A.units + 64 < cLine) : CallR X (.builtin "sorted") (rSortD X.K enc) := by
  intro pins s σ H vs us' Q I r h
  obtain ⟨a, us, bs, rfl, hs, hp, hal, hk, hd, q⟩ := h
  obtain ⟨its, rv, hl, hz⟩ := I.list hs
  rw [Vals.ref1 r]
  have e : PySem.W.EachIs (fun v b => ∃ u, RelV u v ∧ (b, u) ∈ bs.zip us) its bs := each_of (R := fun u b => (b, u) ∈ bs.zip us) (fun u v b p r => ⟨u, r, p⟩) (Paired.mono (fun _ _ h => h.1) (paired_zip hp)) rv
  have er : PySem.W.EachIs (fun v b => ∃ as, Reads s.heap v (enc b) as) its bs := each_of (R := fun u b => Dp X.K H u (enc b)) (fun u v b p r => Dp.reads I (enc b) u v p r) hp rv
  have hlen := hp.length
  refine PySem.W.sorted_data hl.isList e er hal hk (by rw [hlen]; exact hz) (fun b hb => by have := hd b hb; omega) fun out ho eo => ?_
  obtain ⟨ws, w1, w2⟩ := each_split eo
  obtain ⟨ep, he'⟩ := PyProof.Rows.sortedAll_at s.heap its out.toArray
  have hw : ws.length ≤ sizeLine := by rw [w1.length, ho, hlen]; exact hz
  exact ⟨.ref _, upd H (s.heap.objs.size + 1) (.lst ws), I.laid (t' := s.toks) (fun _ _ => PyProof.Rows.sortedAll_old) (Nat.le_succ _) ⟨hw, out, ep, w1, he'⟩, rfl, q ws _ w2 (I.hok.fresh (Nat.le_succ _))⟩
theorem vals_at : ∀ {us : List V} {its : List Value} {i : Nat} {v : Value}, Vals us its → its[i]? = some v → ∃ u, us[i]? = some u ∧ RelV u v
  | _, _, i, _, .nil, h => by simp at h
  | _, _, 0, v, .cons p q, h => by
    have : _ = v := Option.some.inj h
    subst this
    exact ⟨_, rfl, p⟩
  | _, _, i + 1, v, .cons p q, h => vals_at (i := i) q (by simpa using h)
/-- min(xs), xs a list of data alike, not empty: the item itself -/
def rMinD (K : PySem.W.Frag) (enc : β → PyData) : List V → Hp → VK → Prop := fun vs H Q => ∃ (a : Addr) (us : List V) (b0 : β) (bs : List β), vs = [.ref a] ∧ SqL K H a us ∧ Paired (fun b u => Dp K H u (enc b)) (b0 :: bs) us ∧ PySem.W.AlikeAll ((b0 :: bs).map enc) ∧ PyData.depthAll ((b0 :: bs).map enc) ≤ 10 ∧
  ∀ b u, (b, u) ∈ (b0 :: bs).zip us → enc b = PySem.W.minD (enc b0) (bs.map enc) → Q u H
theorem cr_minD (enc : β → PyData) (hc : X.calm = true) (hu : X.A.units + 64 < cLine) : CallR X (.builtin "min") (rMinD X.K enc) := by
  intro pins s σ H vs us' Q I r h
  obtain ⟨a, us, b0, bs, rfl, hs, hp, hal, hd, q⟩ := h
  obtain ⟨its, rv, hl, hz⟩ := I.list hs
  rw [Vals.ref1 r]
  have er : PySem.W.EachIs (fun v b => ∃ as, Reads s.heap v (enc b) as) its (b0 :: bs) := each_of (R := fun u b => Dp X.K H u (enc b)) (fun u v b p r => Dp.reads I (enc b) u v p r) hp rv
  obtain ⟨as, ra⟩ := PySem.W.each_readsAll enc er
  refine PySem.W.min_list_data (I.ok.hd hc) hl.isList (x := enc b0) (xs := bs.map enc) (as := as) (by simpa using ra) hal (by show X.A.units + 1 + PyData.depthAll ((b0 :: bs).map enc) < cLine; omega) fun i v h' tk bs' hv rd hk => ?_
  have hv' : its[i]? = some v := by simpa using hv
  obtain ⟨u, hu1, ru⟩ := vals_at rv hv'
  obtain ⟨b, hb, hdp⟩ : ∃ b, (b0 :: bs)[i]? = some b ∧ Dp X.K H u (enc b) := by
    have : ∀ {l : List β} {us : List V} {i : Nat} {u : V}, Paired (fun b u => Dp X.K H u (enc b)) l us → us[i]? = some u → ∃ b, l[i]? = some b ∧ Dp X.K H u (enc b) := by
      intro l us i u hp
      induction hp generalizing i with
      | nil => intro h; simp at h
      | cons p q ih =>
        intro h
        cases i with
        | zero =>
          have : _ = u := Option.some.inj h
          subst this
          exact ⟨_, rfl, p⟩
        | succ i => exact ih (by simpa using h)
    exact this hp hu1
  obtain ⟨as2, r2⟩ := Dp.reads I (enc b) u v hdp ru
  have e := ((PySem.W.reads_keeps hk r2).unique _ _ rd).1
  refine ⟨u, H, I.kept hk, ru, q b u ?_ e⟩
  have hz : ((b0 :: bs).zip us)[i]? = some (b, u) := by
    rw [List.getElem?_zip_eq_some]
    exact ⟨hb, hu1⟩
  exact List.mem_of_getElem? hz
end

/-! ### len(set(xs)), whole numbers, some perhaps alike -/
def dd (l : List Int) : List Int := l.foldl PyProof.Rows.step_dedup []
theorem dd_range (ns : List Int) : PyProof.Rows.firstMet (fun i => ns.getD i 0) ns.length = dd ns := by
  unfold PyProof.Rows.firstMet dd
  congr 1
  apply List.ext_getElem
  · simp
  · intro i h1 h2
    simp [List.getD_eq_getElem?_getD, h2]
theorem dd_len : ∀ (l acc : List Int), acc.Nodup → (l.foldl PyProof.Rows.step_dedup acc).length ≤ acc.length + l.length ∧ ((l.foldl PyProof.Rows.step_dedup acc).length = acc.length + l.length ↔ (acc ++ l).Nodup)
  | [], acc, h => by simp [h]
  | x :: l, acc, h => by
    rw [List.foldl_cons]
    by_cases hx : x ∈ acc
    · have e : PyProof.Rows.step_dedup acc x = acc := by
        unfold PyProof.Rows.step_dedup
        rw [if_pos]
        rw [List.any_eq_true]
        exact ⟨x, hx, by simp⟩
      rw [e]
      obtain ⟨a, b⟩ := dd_len l acc h
      rw [List.length_cons]
      refine ⟨by omega, ⟨fun z => by omega, fun z => ?_⟩⟩
      rw [List.nodup_append] at z
      exact absurd rfl (z.2.2 x hx x (by simp))
    · have e : PyProof.Rows.step_dedup acc x = acc ++ [x] := by
        unfold PyProof.Rows.step_dedup
        rw [if_neg]
        rw [List.any_eq_true]
        rintro ⟨y, hy, ey⟩
        have : y = x := by simpa using ey
        subst this
        exact hx hy
      rw [e]
      have h' : (acc ++ [x]).Nodup := by
        rw [List.nodup_append]
        refine ⟨h, by simp, fun a ha b hb q => ?_⟩
        have : b = x := by simpa using hb
        subst this
        subst q
        exact hx ha
      obtain ⟨a, b⟩ := dd_len l (acc ++ [x]) h'
      rw [List.length_append, List.length_cons, List.length_nil] at a b
      rw [List.length_cons]
      rw [List.append_assoc] at b
      refine ⟨by omega, ?_⟩
      have e2 : acc.length + (0 + 1) + l.length = acc.length + (l.length + 1) := by omega
      rw [e2] at b
      exact b
theorem dd_nodup (l : List Int) : decide (((dd l).length : Int) = (l.length : Int)) = decide l.Nodup := by
  apply decide_eq_decide.mpr
  rw [Int.ofNat_inj]
  have := (dd_len l [] List.nodup_nil).2
  simpa [dd] using this
def tLenSetA (K : PySem.W.Frag) (ta : TE) : TE := fun σ H Q => ta σ H fun x H1 => ∃ (l : Addr) (ns : List Int), x = .ref l ∧ SqL K H1 l (ns.map V.int) ∧ ns.length ≤ 4000 ∧ Q (.int ((dd ns).length : Nat)) H1
theorem pe_lenSetA {X : Cx} {a : Expr} {ta : TE} {p p2 q pos : Pos} (hg : Gl X "len") (hm : X.mg "len" = none) (hg2 : Gl X "set") (hm2 : X.mg "set" = none) (ha : PE X a ta) (hc : X.calm = true := by rfl)
    (na : starEach [a] X.env = (false, eval a X.env) :: starEach [] X.env := by rfl) : PE X (.Call (.Name "len" p) [.Call (.Name "set" p2) [a] [] q] [] pos) (tLenSetA X.K ta) := by
  refine ⟨fun pins s σ H Q I h => ?_⟩
  refine Call_ (ld_blt I hg hm PySem.boot_len ?_)
  refine PyProof.Rows.callWith_builtin1 (PyProof.Rows.args_cons ?_ rfl) rfl rfl
  refine Call_ (ld_blt I hg2 hm2 PyProof.Rows.boot_set ?_)
  refine PyProof.Rows.callWith_type1 (PyProof.Rows.args_cons (thn (ha.run pins s σ H _ I h) fun v s1 ⟨x, H1, I1, r1, q1⟩ => PyProof.Rows.args_nil ?_) na) na rfl
  obtain ⟨l, ns, rfl, hq, hl, q1⟩ := q1
  cases r1
  obtain ⟨its, r, pl, hz⟩ := I1.list hq
  have hlen : its.toArray.size = ns.length := by rw [List.size_toArray, ← r.length, List.length_map]
  refine PySem.call_set_list (I1.ok.hd hc) pl.isList (by simpa using RZ.intsAre_vals r) (by rw [hlen]; unfold PySem.scanBound; omega) fun h' tk hS hk => ?_
  refine PyProof.Rows.args_nil ?_
  rw [hlen, dd_range] at hS
  obtain ⟨o, es, ep, t, ho, hex, hd, _, _, _, hf, hn⟩ := hS
  have I2 : Inv X pins σ H1 { s1 with heap := h', toks := tk } := I1.kept fun b o e => hk b o (Heap.lt_size e) e
  have hb : (dd ns).length ≤ ns.length := by
    have := (dd_len ns [] List.nodup_nil).1
    simpa [dd] using this
  exact PySem.call_len_set ho hex hd hf (by rw [hn] <;> omega) ⟨.int (dd ns).length, H1, I2.tok _, ⟨_, by rw [hn]⟩, q1⟩
end L2
namespace G
open PySem PySem.Spec PyProof.Rows L2
section
variable {K : PySem.W.Frag} {σ : L2.St} {F R : Hp} {ta tb : TE} {tr : TA}
theorem ev_lenSet {l : List Int} (hl : l.length ≤ 4000) (ha : Ev ta σ F R (zL zI l)) : Ev (tLenSetA K ta) σ F R (zN (dd l).length) := fun s H1 h1 Q k => ha s H1 h1 _ fun v H2 F' u px => by
  obtain ⟨p, us, rfl, hp, lp, zp, pp⟩ := zL_at px
  rw [paired_ints pp] at hp
  exact ⟨p, l, rfl, SqL.of (u.fh _ _ hp), hl, k _ H2 F' u rfl⟩
/-- sorted(xs) of data -/
theorem ev_sortD {β : Type} {g : β → Rp} [∀ a, MS (g a)] {enc : β → PyData} {bs : List β} (hd : ∀ b u F', g b u F' → ∀ H', Same F' H' → Dp K H' u (enc b)) (hal : PySem.W.AllAlike (bs.map enc)) (hk : PySem.W.Sortable (bs.map enc)) (hz : ∀ b ∈ bs, (enc b).depth ≤ 10) (h : EvA tr σ F R [zL g bs]) :
    Ev (tCB (rSortD K enc) tr) σ F R (zL g (bs.mergeSort (PySem.W.dataLe false enc))) := fun s H1 h1 Q k => one_arg h s H1 h1 _ fun v H2 F' u px => by
  obtain ⟨p, us, rfl, hp, lp, zp, pp⟩ := zL_at px
  refine ⟨p, us, bs, rfl, SqL.of (u.fh _ _ hp), Paired.mono (fun b u' q => hd b u' F' q H2 u.fh) pp, hal, hk, hz, fun ws q pw hq => ?_⟩
  have u2 := Fut.new (o := HO.lst ws) u.fh hq
  refine k _ _ _ (u.trans u2) ⟨q, ws, rfl, upd_same, ?_, by rw [List.length_mergeSort]; exact zp⟩
  refine Paired.mono (fun b w hm => up u2.ff ?_) pw
  have key : ∀ {l : List β} {us : List V}, Paired (fun a u => g a u F') l us → (b, w) ∈ l.zip us → g b w F' := by
    intro l us hp
    induction hp with
    | nil => intro h; cases h
    | cons p q ih =>
      intro h
      rw [List.zip_cons_cons] at h
      rcases List.mem_cons.mp h with e | e
      · cases e
        exact p
      · exact ih e
  exact key pp hm
theorem ev_sorted {l : List Int} (hl : l.length < 64) (h : EvA tr σ F R [zL zI l]) : Ev (tCB (rSorted K) tr) σ F R (fun v F' => ∃ l', l'.Perm l ∧ l'.Pairwise (· ≤ ·) ∧ zL zI l' v F') := fun s H1 h1 Q k => one_arg h s H1 h1 _ fun v H2 F' u px => by
  obtain ⟨p, us, rfl, hp, lp, zp, pp⟩ := zL_at px
  rw [paired_ints pp] at hp
  refine ⟨p, l, rfl, SqL.of (u.fh _ _ hp), hl, fun l' q h1 h2 hq => ?_⟩
  have u2 := Fut.new (o := HO.lst (l'.map V.int)) u.fh hq
  exact k _ _ _ (u.trans u2) ⟨l', h1, h2, q, _, rfl, upd_same, paired_of_ints l', by rw [h1.length_eq]; exact zp⟩
/-- min(xs) of data -/
theorem ev_minD {β : Type} {g : β → Rp} [∀ a, MS (g a)] {enc : β → PyData} {b0 : β} {bs : List β} {P : Rp} (hd : ∀ b u F', g b u F' → ∀ H', Same F' H' → Dp K H' u (enc b)) (hal : PySem.W.AlikeAll ((b0 :: bs).map enc)) (hz : PyData.depthAll ((b0 :: bs).map enc) ≤ 10) (hP : ∀ b u F', enc b = PySem.W.minD (enc b0) (bs.map enc) → g b u F' → P u F') (h : EvA tr σ F R [zL g (b0 :: bs)]) :
    Ev (tCB (rMinD K enc) tr) σ F R P := fun s H1 h1 Q k => one_arg h s H1 h1 _ fun v H2 F' u px => by
  obtain ⟨p, us, rfl, hp, lp, zp, pp⟩ := zL_at px
  refine ⟨p, us, b0, bs, rfl, SqL.of (u.fh _ _ hp), Paired.mono (fun b u' q => hd b u' F' q H2 u.fh) pp, hal, hz, fun b w hm e => ?_⟩
  have key : ∀ {l : List β} {us : List V}, Paired (fun a u => g a u F') l us → (b, w) ∈ l.zip us → g b w F' := by
    intro l us hp
    induction hp with
    | nil => intro h; cases h
    | cons p q ih =>
      intro h
      rw [List.zip_cons_cons] at h
      rcases List.mem_cons.mp h with e | e
      · cases e
        exact p
      · exact ih e
  exact k _ H2 F' u (hP b w F' e (key pp hm))
end
end G
end

section
set_option linter.all false
namespace G
open Vbwbad
abbrev B := Vbwbad.Batch

/-! ### vectors -/
theorem plus_len {k : Nat} {a b : Vec} (ha : a.length = k) (hb : b.length = k) : (plus a b).length = k := by
  unfold plus
  rw [List.length_zipWith, ha, hb, Nat.min_self]
theorem minus_len {k : Nat} {a b : Vec} (ha : a.length = k) (hb : b.length = k) : (minus a b).length = k := by
  unfold minus
  rw [List.length_zipWith, ha, hb, Nat.min_self]
theorem plus_cons (x y : Nat) (a b : Vec) : plus (x :: a) (y :: b) = (x + y) :: plus a b := rfl
theorem minus_cons (x y : Nat) (a b : Vec) : minus (x :: a) (y :: b) = (x - y) :: minus a b := rfl
theorem within_cons (x y : Nat) (a b : Vec) : within (x :: a) (y :: b) = (decide (x ≤ y) && within a b) := rfl
theorem within_nil (b : Vec) : within [] b = true := by cases b <;> rfl
theorem within_nil' (a : Vec) : within a [] = true := by cases a <;> rfl
theorem plus_nil (b : Vec) : plus [] b = [] := by cases b <;> rfl
theorem plus_nil' (a : Vec) : plus a [] = [] := by cases a <;> rfl
theorem minus_nil (b : Vec) : minus [] b = [] := by cases b <;> rfl
theorem minus_nil' (a : Vec) : minus a [] = [] := by cases a <;> rfl

/-- pointwise, for vectors of one length -/
theorem within_iff {k : Nat} : ∀ {a b : Vec}, a.length = k → b.length = k → (within a b = true ↔ ∀ i, i < k → a.getD i 0 ≤ b.getD i 0) := by
  induction k with
  | zero =>
    intro a b ha hb
    have : a = [] := List.eq_nil_of_length_eq_zero ha
    subst this
    simp [within_nil]
  | succ k ih =>
    intro a b ha hb
    match a, b, ha, hb with
    | x :: a, y :: b, ha, hb =>
      rw [within_cons, Bool.and_eq_true, ih (by simpa using ha) (by simpa using hb), decide_eq_true_eq]
      constructor
      · rintro ⟨h1, h2⟩ i hi
        cases i with
        | zero => simpa using h1
        | succ i => simpa using h2 i (by omega)
      · intro h
        refine ⟨by simpa using h 0 (by omega), fun i hi => ?_⟩
        simpa using h (i + 1) (by omega)
theorem plus_get {k : Nat} : ∀ {a b : Vec} {i : Nat}, a.length = k → b.length = k → (plus a b).getD i 0 = a.getD i 0 + b.getD i 0 := by
  induction k with
  | zero =>
    intro a b i ha hb
    have : a = [] := List.eq_nil_of_length_eq_zero ha
    have : b = [] := List.eq_nil_of_length_eq_zero hb
    subst_vars
    simp [plus]
  | succ k ih =>
    intro a b i ha hb
    match a, b, ha, hb with
    | x :: a, y :: b, ha, hb =>
      rw [plus_cons]
      cases i with
      | zero => simp
      | succ i => simpa using ih (by simpa using ha) (by simpa using hb)
theorem minus_get {k : Nat} : ∀ {a b : Vec} {i : Nat}, a.length = k → b.length = k → (minus a b).getD i 0 = a.getD i 0 - b.getD i 0 := by
  induction k with
  | zero =>
    intro a b i ha hb
    have : a = [] := List.eq_nil_of_length_eq_zero ha
    have : b = [] := List.eq_nil_of_length_eq_zero hb
    subst_vars
    simp [minus]
  | succ k ih =>
    intro a b i ha hb
    match a, b, ha, hb with
    | x :: a, y :: b, ha, hb =>
      rw [minus_cons]
      cases i with
      | zero => simp
      | succ i => simpa using ih (by simpa using ha) (by simpa using hb)
theorem vec_ext {k : Nat} {a b : Vec} (ha : a.length = k) (hb : b.length = k) (h : ∀ i, i < k → a.getD i 0 = b.getD i 0) : a = b := by
  apply List.ext_getElem (by omega)
  intro i h1 h2
  have := h i (by omega)
  rw [List.getD_eq_getElem?_getD, List.getD_eq_getElem?_getD, List.getElem?_eq_getElem h1, List.getElem?_eq_getElem h2] at this
  simpa using this
theorem zero_get (s : Vec) (i : Nat) : (s.map fun _ => 0).getD i 0 = 0 := by
  rw [List.getD_eq_getElem?_getD, List.getElem?_map]
  cases s[i]? <;> rfl

theorem plus_comm (a b : Vec) : plus a b = plus b a := by
  unfold plus
  rw [List.zipWith_comm]
  congr 1
  funext x y
  exact Nat.add_comm y x
theorem plus_right_comm {k : Nat} {a b c : Vec} (ha : a.length = k) (hb : b.length = k) (hc : c.length = k) : plus (plus a b) c = plus (plus a c) b := by
  refine vec_ext (k := k) (plus_len (plus_len ha hb) hc) (plus_len (plus_len ha hc) hb) fun i hi => ?_
  rw [plus_get (plus_len ha hb) hc, plus_get (plus_len ha hc) hb, plus_get ha hb, plus_get ha hc]
  omega
theorem within_trans {k : Nat} {a b c : Vec} (ha : a.length = k) (hb : b.length = k) (hc : c.length = k) (h1 : within a b = true) (h2 : within b c = true) : within a c = true := by
  rw [within_iff ha hb] at h1
  rw [within_iff hb hc] at h2
  rw [within_iff ha hc]
  intro i hi
  have := h1 i hi
  have := h2 i hi
  omega
theorem within_refl (a : Vec) : within a a = true := by
  rw [within_iff rfl rfl]
  intro i _
  exact Nat.le_refl _
theorem plus_mono {k : Nat} {a b c : Vec} (ha : a.length = k) (hb : b.length = k) (hc : c.length = k) (h : within a b = true) : within (plus a c) (plus b c) = true := by
  rw [within_iff ha hb] at h
  rw [within_iff (plus_len ha hc) (plus_len hb hc)]
  intro i hi
  rw [plus_get ha hc, plus_get hb hc]
  have := h i hi
  omega
theorem within_plus {k : Nat} {a c : Vec} (ha : a.length = k) (hc : c.length = k) : within a (plus a c) = true := by
  rw [within_iff ha (plus_len ha hc)]
  intro i hi
  rw [plus_get ha hc]
  omega

/-! ### who can end -/
/-- as the program says it -/
def canEndP (f : Vec) (b : B) : Bool := b.alts.any fun a => within b.holds a && within a (plus b.holds f)
theorem within_shift : ∀ (a h f : Vec), within (minus a h) f = within a (plus h f)
  | [], h, f => by rw [minus_nil, within_nil, within_nil]
  | x :: a, [], f => by rw [minus_nil', plus_nil, within_nil, within_nil']
  | x :: a, y :: h, [] => by rw [plus_nil', within_nil', within_nil']
  | x :: a, y :: h, z :: f => by
    rw [minus_cons, plus_cons, within_cons, within_cons, within_shift a h f]
    congr 1
    apply decide_eq_decide.mpr
    omega
theorem canEndP_eq (f : Vec) (b : B) : canEndP f b = canEnd f b := by
  unfold canEndP canEnd
  congr 1
  funext a
  rw [within_shift]
/-- what's free when batches gave back all that they hold -/
def givenBack (f : Vec) (bs : List B) : Vec := bs.foldl (fun v b => plus v b.holds) f
/-- of one number of kinds -/
def LenB (k : Nat) (b : B) : Prop := b.holds.length = k ∧ ∀ a ∈ b.alts, a.length = k
def Len (k : Nat) (l : List B) : Prop := ∀ b ∈ l, LenB k b
theorem givenBack_len {k : Nat} : ∀ {bs : List B} {f : Vec}, f.length = k → Len k bs → (givenBack f bs).length = k
  | [], f, hf, _ => hf
  | b :: bs, f, hf, h => givenBack_len (bs := bs) (f := plus f b.holds) (plus_len hf (h b (by simp)).1) fun c hc => h c (by simp [hc])
theorem canEnd_iff {k : Nat} {f : Vec} {b : B} (hf : f.length = k) (hb : LenB k b) : canEnd f b = true ↔ ∃ a ∈ b.alts, within b.holds a = true ∧ within a (plus b.holds f) = true := by
  rw [← canEndP_eq]
  unfold canEndP
  simp [List.any_eq_true, Bool.and_eq_true]
theorem canEnd_mono {k : Nat} {f g : Vec} {b : B} (hf : f.length = k) (hg : g.length = k) (hb : LenB k b) (h : within f g = true) (c : canEnd f b = true) : canEnd g b = true := by
  rw [canEnd_iff hf hb] at c
  rw [canEnd_iff hg hb]
  obtain ⟨a, ha, h1, h2⟩ := c
  refine ⟨a, ha, h1, within_trans (hb.2 a ha) (plus_len hb.1 hf) (plus_len hb.1 hg) h2 ?_⟩
  rw [plus_comm b.holds f, plus_comm b.holds g]
  exact plus_mono hf hg hb.1 h
/-- without one -/
def wo (l : List B) (i : Nat) : List B := l.filter fun y => y.id != i
theorem wo_len {k : Nat} {l : List B} {i : Nat} (h : Len k l) : Len k (wo l i) := fun b hb => h b (List.mem_filter.mp hb).1
theorem mem_wo {l : List B} {i : Nat} {b : B} : b ∈ wo l i ↔ b ∈ l ∧ b.id ≠ i := by
  unfold wo
  simp [List.mem_filter]
theorem wo_comm (l : List B) (i j : Nat) : wo (wo l i) j = wo (wo l j) i := by
  unfold wo
  rw [List.filter_filter, List.filter_filter]
  congr 1
  funext y
  exact Bool.and_comm _ _
theorem wo_length_lt {l : List B} {b : B} (h : b ∈ l) : (wo l b.id).length < l.length := by
  unfold wo
  apply List.length_filter_lt_length_iff_exists.mpr
  exact ⟨b, h, by simp⟩

/-! ### batches ended, always the first that can -/
def endB : Nat → Vec → List B → List B × List B
  | 0, _, l => ([], l)
  | n + 1, f, l => match l.find? (canEnd f) with
    | none => ([], l)
    | some b => (b :: (endB n (plus f b.holds) (wo l b.id)).1, (endB n (plus f b.holds) (wo l b.id)).2)
theorem ended_endB : ∀ (n : Nat) (f : Vec) (l : List B), ended n f l = (ids (endB n f l).1, (endB n f l).2)
  | 0, f, l => rfl
  | n + 1, f, l => by
    unfold ended endB
    cases l.find? (canEnd f) with
    | none => rfl
    | some b =>
      have ih := ended_endB n (plus f b.holds) (wo l b.id)
      simp only [wo] at ih ⊢
      rw [ih]
      rfl
theorem endB_fuel : ∀ (n m : Nat) (f : Vec) (l : List B), l.length ≤ n → l.length ≤ m → endB n f l = endB m f l
  | 0, 0, f, l, _, _ => rfl
  | 0, m + 1, f, l, h, _ => by
    have : l = [] := List.eq_nil_of_length_eq_zero (by omega)
    subst this
    rfl
  | n + 1, 0, f, l, _, h => by
    have : l = [] := List.eq_nil_of_length_eq_zero (by omega)
    subst this
    rfl
  | n + 1, m + 1, f, l, h1, h2 => by
    unfold endB
    cases e : l.find? (canEnd f) with
    | none => rfl
    | some b =>
      have hb := List.mem_of_find?_eq_some e
      have hlt := wo_length_lt hb
      dsimp only
      rw [endB_fuel n m (plus f b.holds) (wo l b.id) (by omega) (by omega)]
def endAll (f : Vec) (l : List B) : List B × List B := endB l.length f l
theorem endAll_none {f : Vec} {l : List B} (e : l.find? (canEnd f) = none) : endAll f l = ([], l) := by
  unfold endAll
  cases l with
  | nil => rfl
  | cons b r =>
    show endB (r.length + 1) f (b :: r) = _
    unfold endB
    rw [e]
theorem endAll_some {f : Vec} {l : List B} {b : B} (e : l.find? (canEnd f) = some b) : endAll f l = (b :: (endAll (plus f b.holds) (wo l b.id)).1, (endAll (plus f b.holds) (wo l b.id)).2) := by
  have hb := List.mem_of_find?_eq_some e
  have hlt := wo_length_lt hb
  cases l with
  | nil => cases hb
  | cons c r =>
    have e1 : endAll f (c :: r) = endB (r.length + 1) f (c :: r) := rfl
    rw [e1]
    unfold endB
    rw [e]
    dsimp only
    unfold endAll
    rw [endB_fuel r.length (wo (c :: r) b.id).length _ _ (by simp at hlt; omega) (Nat.le_refl _)]
/-- the induction that goes with it -/
theorem endAll_ind {C : Vec → List B → Prop} (h1 : ∀ f l, l.find? (canEnd f) = none → C f l)
    (h2 : ∀ f l b, l.find? (canEnd f) = some b → C (plus f b.holds) (wo l b.id) → C f l) : ∀ f l, C f l := by
  have : ∀ (n : Nat) f (l : List B), l.length ≤ n → C f l := by
    intro n
    induction n with
    | zero =>
      intro f l h
      have : l = [] := List.eq_nil_of_length_eq_zero (by omega)
      subst this
      exact h1 f [] rfl
    | succ n ih =>
      intro f l h
      cases e : l.find? (canEnd f) with
      | none => exact h1 f l e
      | some b =>
        have hlt := wo_length_lt (List.mem_of_find?_eq_some e)
        exact h2 f l b e (ih _ _ (by omega))
  intro f l
  exact this l.length f l (Nat.le_refl _)
def safeB (f : Vec) (l : List B) : Bool := (endAll f l).2.isEmpty
theorem safe_eq (s : State) : safe s = safeB (free s) s.batches := by
  unfold safe endedAll safeB endAll
  rw [ended_endB]
theorem stuck_eq (s : State) : stuck s = ids (endAll (free s) s.batches).2 := by
  unfold stuck endedAll endAll
  rw [ended_endB]
theorem endedAll_eq (s : State) : endedAll s = (ids (endAll (free s) s.batches).1, (endAll (free s) s.batches).2) := by
  unfold endedAll endAll
  rw [ended_endB]

/-! ### there's an order in which all can be ended -/
inductive Fin : Vec → List B → Prop
  | nil (f : Vec) : Fin f []
  | cons (f : Vec) (l : List B) (b : B) : b ∈ l → canEnd f b = true → Fin (plus f b.holds) (wo l b.id) → Fin f l
def Uniq (l : List B) : Prop := (ids l).Nodup
theorem uniq_eq {l : List B} (u : Uniq l) {b c : B} (hb : b ∈ l) (hc : c ∈ l) (e : b.id = c.id) : b = c := by
  induction l with
  | nil => cases hb
  | cons d r ih =>
    unfold Uniq ids at u
    rw [List.map_cons, List.nodup_cons] at u
    rcases List.mem_cons.mp hb with rfl | hb'
    · rcases List.mem_cons.mp hc with rfl | hc'
      · rfl
      · exact absurd (List.mem_map.mpr ⟨c, hc', e.symm⟩) u.1
    · rcases List.mem_cons.mp hc with rfl | hc'
      · exact absurd (List.mem_map.mpr ⟨b, hb', e⟩) u.1
      · exact ih u.2 hb' hc'
theorem uniq_wo {l : List B} (u : Uniq l) (i : Nat) : Uniq (wo l i) := by
  unfold Uniq ids wo
  exact List.Nodup.sublist (List.Sublist.map _ List.filter_sublist) u
theorem Fin.mono {k : Nat} {f : Vec} {l : List B} (h : Fin f l) : ∀ {g : Vec}, f.length = k → g.length = k → Len k l → within f g = true → Fin g l := by
  induction h with
  | nil f =>
    intro g _ _ _ _
    exact .nil g
  | cons f l b hb hc _ ih =>
    intro g hf hg hl hw
    have lb := hl b hb
    exact .cons g l b hb (canEnd_mono hf hg lb hw hc) (ih (plus_len hf lb.1) (plus_len hg lb.1) (wo_len hl) (plus_mono hf hg lb.1 hw))
/-- whoever can end may as well be ended first -/
theorem Fin.swap {k : Nat} {f : Vec} {l : List B} (h : Fin f l) : ∀ {b : B}, f.length = k → Len k l → Uniq l → b ∈ l → canEnd f b = true → Fin (plus f b.holds) (wo l b.id) := by
  induction h with
  | nil f =>
    intro b _ _ _ hb _
    cases hb
  | cons f l c hc cc hr ih =>
    intro b hf hl u hb cb
    have lb := hl b hb
    have lc := hl c hc
    by_cases e : b.id = c.id
    · have : b = c := uniq_eq u hb hc e
      subst this
      exact hr
    · have hb' : b ∈ wo l c.id := mem_wo.mpr ⟨hb, e⟩
      have hc' : c ∈ wo l b.id := mem_wo.mpr ⟨hc, fun z => e z.symm⟩
      have r := ih (plus_len hf lc.1) (wo_len hl) (uniq_wo u _) hb' (canEnd_mono hf (plus_len hf lc.1) lb (within_plus hf lc.1) cb)
      rw [plus_right_comm hf lc.1 lb.1, wo_comm] at r
      exact .cons _ _ c hc' (canEnd_mono hf (plus_len hf lb.1) lc (within_plus hf lb.1) cc) r
theorem safeB_iff {k : Nat} (f : Vec) (l : List B) (hf : f.length = k) (hl : Len k l) (u : Uniq l) : safeB f l = true ↔ Fin f l := by
  revert hf hl u
  refine endAll_ind (C := fun f l => f.length = k → Len k l → Uniq l → (safeB f l = true ↔ Fin f l)) ?_ ?_ f l
  · intro f l e hf hl u
    unfold safeB
    rw [endAll_none e]
    constructor
    · intro h
      have : l = [] := by simpa using h
      subst this
      exact .nil f
    · intro h
      cases h with
      | nil => rfl
      | cons _ _ b hb hc _ =>
        rw [List.find?_eq_none] at e
        exact absurd hc (e b hb)
  · intro f l b e ih hf hl u
    have hb := List.mem_of_find?_eq_some e
    have cb : canEnd f b = true := List.find?_some e
    have lb := hl b hb
    have r := ih (plus_len hf lb.1) (wo_len hl) (uniq_wo u _)
    have e1 : safeB f l = safeB (plus f b.holds) (wo l b.id) := by
      unfold safeB
      rw [endAll_some e]
    rw [e1, r]
    exact ⟨fun h => .cons f l b hb cb h, fun h => h.swap hf hl u hb cb⟩
theorem safeB_mono {k : Nat} {f g : Vec} {l : List B} (hf : f.length = k) (hg : g.length = k) (hl : Len k l) (u : Uniq l) (hw : within f g = true) (h : safeB f l = true) : safeB g l = true :=
  (safeB_iff g l hg hl u).mpr (((safeB_iff f l hf hl u).mp h).mono hf hg hl hw)
end G
end

section
set_option linter.all false
namespace G
open Vbwbad

/-! ### who goes on -/
theorem going_fuel : ∀ (n m : Nat) (f : Vec) (l : List B), l.length ≤ n → l.length ≤ m → going n f l = going m f l
  | 0, 0, f, l, _, _ => rfl
  | 0, m + 1, f, l, h, _ => by
    have : l = [] := List.eq_nil_of_length_eq_zero (by omega)
    subst this
    rfl
  | n + 1, 0, f, l, _, h => by
    have : l = [] := List.eq_nil_of_length_eq_zero (by omega)
    subst this
    rfl
  | n + 1, m + 1, f, l, h1, h2 => by
    unfold going
    cases e : l.find? (canGo f) with
    | none => rfl
    | some b =>
      have hb := List.mem_of_find?_eq_some e
      have hlt := wo_length_lt hb
      dsimp only
      exact going_fuel n m (plus f b.holds) (wo l b.id) (by omega) (by omega)
def goAll (f : Vec) (l : List B) : List B := going l.length f l
theorem goAll_none {f : Vec} {l : List B} (e : l.find? (canGo f) = none) : goAll f l = l := by
  unfold goAll
  cases l with
  | nil => rfl
  | cons b r =>
    show going (r.length + 1) f (b :: r) = _
    unfold going
    rw [e]
theorem goAll_some {f : Vec} {l : List B} {b : B} (e : l.find? (canGo f) = some b) : goAll f l = goAll (plus f b.holds) (wo l b.id) := by
  have hb := List.mem_of_find?_eq_some e
  have hlt := wo_length_lt hb
  cases l with
  | nil => cases hb
  | cons c r =>
    have e1 : goAll f (c :: r) = going (r.length + 1) f (c :: r) := rfl
    rw [e1]
    unfold going
    rw [e]
    dsimp only
    have hlt' : (wo (c :: r) b.id).length ≤ r.length := by rw [List.length_cons] at hlt; omega
    exact going_fuel r.length (wo (c :: r) b.id).length _ _ hlt' (Nat.le_refl _)
theorem locked_eq (s : State) : locked s = ids (goAll (free s) s.batches) := rfl

/-! ### a state as it should be -/
structure WF (s : State) : Prop where
  len : Len s.totals.length s.batches
  wlen : ∀ b ∈ s.batches, ∀ w, b.want = some w → w.2.length = s.totals.length ∧ w.1 < s.next
  uniq : Uniq s.batches
  okid : ∀ b ∈ s.batches, 1 ≤ b.id ∧ b.id ≤ 1000000000
  wuniq : ∀ b ∈ s.batches, ∀ c ∈ s.batches, ∀ w v, b.want = some w → c.want = some v → w.1 = v.1 → b.id = c.id
  fits : within (held s) s.totals = true
  few : s.batches.length ≤ 10
  fewA : ∀ b ∈ s.batches, b.alts.length ≤ 4
  kinds : s.totals.length ≤ 6
  small : ∀ n ∈ s.totals, n ≤ 1000000000
theorem wf_start : WF start := ⟨fun _ h => (by cases h), fun _ h => (by cases h), (by simp [Uniq, ids, start]), fun _ h => (by cases h), fun _ h => (by cases h), (by decide), (by decide), fun _ h => (by cases h), (by decide), fun _ h => (by cases h)⟩
theorem zero_len (s : State) : (zero s).length = s.totals.length := by simp [zero]
theorem held_eq (s : State) : held s = givenBack (zero s) s.batches := rfl
theorem held_len {s : State} (h : Len s.totals.length s.batches) : (held s).length = s.totals.length := givenBack_len (zero_len s) h
theorem free_len {s : State} (h : Len s.totals.length s.batches) : (free s).length = s.totals.length := minus_len rfl (held_len h)
/-- what some hold, kind by kind -/
def sumAt (l : List B) (i : Nat) : Nat := (l.map fun b => b.holds.getD i 0).sum
theorem givenBack_get {k : Nat} : ∀ {l : List B} {f : Vec} {i : Nat}, f.length = k → Len k l → (givenBack f l).getD i 0 = f.getD i 0 + sumAt l i
  | [], f, i, _, _ => by simp [givenBack, sumAt]
  | b :: l, f, i, hf, hl => by
    have lb := hl b (by simp)
    have r := givenBack_get (l := l) (f := plus f b.holds) (i := i) (plus_len hf lb.1) fun c hc => hl c (by simp [hc])
    show (givenBack (plus f b.holds) l).getD i 0 = _
    rw [r, plus_get hf lb.1]
    simp only [sumAt, List.map_cons, List.sum_cons]
    omega
theorem held_get {s : State} (h : Len s.totals.length s.batches) (i : Nat) : (held s).getD i 0 = sumAt s.batches i := by
  rw [held_eq, givenBack_get (zero_len s) h]
  unfold zero
  rw [zero_get]
  omega
theorem free_get {s : State} (h : Len s.totals.length s.batches) (i : Nat) : (free s).getD i 0 = s.totals.getD i 0 - sumAt s.batches i := by
  unfold free
  rw [minus_get rfl (held_len h), held_get h]
theorem WF.fit {s : State} (w : WF s) (i : Nat) (hi : i < s.totals.length) : sumAt s.batches i ≤ s.totals.getD i 0 := by
  have := (within_iff (held_len w.len) rfl).mp w.fits i hi
  rw [held_get w.len] at this
  exact this
theorem fits_of {s : State} (h : Len s.totals.length s.batches) (q : ∀ i, i < s.totals.length → sumAt s.batches i ≤ s.totals.getD i 0) : within (held s) s.totals = true := by
  rw [within_iff (held_len h) rfl]
  intro i hi
  rw [held_get h]
  exact q i hi

/-! ### one batch put in another's place -/
theorem put_batches (s : State) (b : B) : (put s b).batches = s.batches.map fun x => if x.id = b.id then b else x := rfl
theorem mem_put {s : State} {b c : B} (h : c ∈ (put s b).batches) : c = b ∨ (c ∈ s.batches ∧ c.id ≠ b.id) := by
  rw [put_batches] at h
  obtain ⟨x, hx, e⟩ := List.mem_map.mp h
  by_cases q : x.id = b.id
  · rw [if_pos q] at e
    exact .inl e.symm
  · rw [if_neg q] at e
    subst e
    exact .inr ⟨hx, q⟩
theorem ids_put (s : State) (b : B) : ids (put s b).batches = ids s.batches := by
  rw [put_batches]
  unfold ids
  rw [List.map_map]
  apply List.map_congr_left
  intro x _
  show (if x.id = b.id then b else x).id = x.id
  by_cases q : x.id = b.id
  · rw [if_pos q, q]
  · rw [if_neg q]
/-- the sum behind it -/
theorem sumAt_map {l : List B} {b c : B} (u : Uniq l) (hc : c ∈ l) (e : c.id = b.id) (i : Nat) :
    sumAt (l.map fun x => if x.id = b.id then b else x) i + c.holds.getD i 0 = sumAt l i + b.holds.getD i 0 := by
  induction l with
  | nil => cases hc
  | cons d r ih =>
    have u' := u
    unfold Uniq ids at u'
    rw [List.map_cons, List.nodup_cons] at u'
    have same : ∀ x ∈ r, x.id ≠ d.id := fun x hx q => u'.1 (List.mem_map.mpr ⟨x, hx, q⟩)
    simp only [sumAt, List.map_cons, List.sum_cons] at ih ⊢
    rcases List.mem_cons.mp hc with rfl | hc'
    · rw [if_pos e]
      have : r.map (fun x => if x.id = b.id then b else x) = r := by
        conv => rhs; rw [← List.map_id r]
        apply List.map_congr_left
        intro x hx
        rw [if_neg (by rw [← e]; exact same x hx)]
        rfl
      rw [this]
      omega
    · have hne : d.id ≠ b.id := fun q => same c hc' (e.trans q.symm)
      rw [if_neg hne]
      have := ih u'.2 hc'
      omega
theorem len_put {k : Nat} {s : State} {b : B} (h : Len k s.batches) (hb : LenB k b) : Len k (put s b).batches := fun c hc => by
  rcases mem_put hc with rfl | ⟨q, _⟩
  · exact hb
  · exact h c q
theorem uniq_put {s : State} {b : B} (u : Uniq s.batches) : Uniq (put s b).batches := by
  unfold Uniq
  rw [ids_put]
  exact u
theorem batchOf_some {s : State} {i : Nat} {b : B} (h : batchOf s i = some b) : b ∈ s.batches ∧ b.id = i := by
  refine ⟨List.mem_of_find?_eq_some h, ?_⟩
  have := List.find?_some h
  simpa using this
theorem batchOf_mem {s : State} {b : B} (u : Uniq s.batches) (h : b ∈ s.batches) : batchOf s b.id = some b := by
  cases e : batchOf s b.id with
  | none =>
    unfold batchOf at e
    rw [List.find?_eq_none] at e
    exact absurd (by simp) (e b h)
  | some c =>
    obtain ⟨h1, h2⟩ := batchOf_some e
    rw [uniq_eq u h1 h h2]
/-- what matters of batches where nobody waits -/
def Alike (a b : B) : Prop := a.id = b.id ∧ a.alts = b.alts ∧ a.holds = b.holds
theorem Alike.canEnd {a b : B} (h : Alike a b) (f : Vec) : canEnd f a = canEnd f b := by
  unfold Vbwbad.canEnd
  rw [h.2.1, h.2.2]
inductive All2 {α β : Type} (R : α → β → Prop) : List α → List β → Prop
  | nil : All2 R [] []
  | cons {a b l m} : R a b → All2 R l m → All2 R (a :: l) (b :: m)
theorem All2.refl {α : Type} {R : α → α → Prop} (h : ∀ a, R a a) : ∀ l, All2 R l l
  | [] => .nil
  | a :: l => .cons (h a) (All2.refl h l)
theorem All2.length {α β : Type} {R : α → β → Prop} {l : List α} {m : List β} (h : All2 R l m) : l.length = m.length := by
  induction h with
  | nil => rfl
  | cons _ _ ih => simp [ih]
theorem alike_ids {l m : List B} (h : All2 Alike l m) : ids l = ids m := by
  induction h with
  | nil => rfl
  | cons r _ ih =>
    unfold ids at ih ⊢
    rw [List.map_cons, List.map_cons, ih, r.1]
theorem alike_wo {l m : List B} (i : Nat) (h : All2 Alike l m) : All2 Alike (wo l i) (wo m i) := by
  induction h with
  | nil => exact .nil
  | @cons a b l m r _ ih =>
    unfold wo at ih ⊢
    rw [List.filter_cons, List.filter_cons, r.1]
    by_cases q : (b.id != i) = true
    · rw [if_pos q, if_pos q]
      exact .cons r ih
    · rw [if_neg q, if_neg q]
      exact ih
theorem alike_find {l m : List B} (f : Vec) (h : All2 Alike l m) : (l.find? (canEnd f) = none ∧ m.find? (canEnd f) = none) ∨ ∃ a b, l.find? (canEnd f) = some a ∧ m.find? (canEnd f) = some b ∧ Alike a b := by
  induction h with
  | nil => exact .inl ⟨rfl, rfl⟩
  | @cons a b l m r _ ih =>
    rw [List.find?_cons, List.find?_cons, r.canEnd f]
    cases canEnd f b with
    | true => exact .inr ⟨a, b, rfl, rfl, r⟩
    | false => exact ih
theorem alike_end (f : Vec) (l : List B) : ∀ m, All2 Alike l m → All2 Alike (endAll f l).1 (endAll f m).1 ∧ All2 Alike (endAll f l).2 (endAll f m).2 := by
  refine endAll_ind (C := fun f l => ∀ m, All2 Alike l m → All2 Alike (endAll f l).1 (endAll f m).1 ∧ All2 Alike (endAll f l).2 (endAll f m).2) ?_ ?_ f l
  · intro f l e m h
    rcases alike_find f h with ⟨h1, h2⟩ | ⟨a, b, h1, _⟩
    · rw [endAll_none h1, endAll_none h2]
      exact ⟨.nil, h⟩
    · rw [e] at h1
      cases h1
  · intro f l b e ih m h
    rcases alike_find f h with ⟨h1, h2⟩ | ⟨a, c, h1, h2, r⟩
    · rw [e] at h1
      cases h1
    · rw [e] at h1
      cases h1
      rw [endAll_some e, endAll_some h2]
      have q := ih (wo m c.id) (by rw [r.1]; exact alike_wo _ h)
      rw [r.2.2] at q ⊢
      exact ⟨.cons r q.1, q.2⟩
theorem alike_safe {f : Vec} {l m : List B} (h : All2 Alike l m) : safeB f l = safeB f m := by
  have := (alike_end f l m h).2.length
  unfold safeB
  cases e : (endAll f l).2 <;> cases e' : (endAll f m).2 <;> simp [e, e'] at this ⊢
theorem alike_map {l : List B} (g h : B → B) (q : ∀ b ∈ l, Alike (g b) (h b)) : All2 Alike (l.map g) (l.map h) := by
  induction l with
  | nil => exact .nil
  | cons b r ih => exact .cons (q b (by simp)) (ih fun c hc => q c (by simp [hc]))

/-! ### a batch that holds more -/
def moreOf (b : B) (v : Vec) : B := ⟨b.id, b.alts, plus b.holds v, b.want⟩
def giveB (s : State) (b : B) (v : Vec) : List B := s.batches.map fun x => if x.id = b.id then moreOf b v else x
theorem giveB_put (s : State) (b : B) (v : Vec) : giveB s b v = (put s (moreOf b v)).batches := rfl
theorem give_alike (s : State) (b : B) (v : Vec) : All2 Alike (giveB s b v) (given s b v).batches := by
  refine alike_map _ _ fun x _ => ?_
  by_cases q : x.id = b.id
  · simp only [if_pos q]
    exact ⟨rfl, rfl, rfl⟩
  · simp only [if_neg q]
    exact ⟨rfl, rfl, rfl⟩
/-- free behind a grant -/
theorem free_put {s : State} {b c : B} (w : WF s) (hc : c ∈ s.batches) (e : c.id = b.id) (hb : LenB s.totals.length b) (i : Nat) (hi : i < s.totals.length) :
    (free (put s b)).getD i 0 = s.totals.getD i 0 - (sumAt s.batches i + b.holds.getD i 0 - c.holds.getD i 0) := by
  have hl : Len (put s b).totals.length (put s b).batches := len_put w.len hb
  rw [free_get hl]
  have := sumAt_map w.uniq hc e i
  rw [put_batches]
  show s.totals.getD i 0 - _ = _
  omega
theorem free_given {s : State} {b : B} {v : Vec} (w : WF s) (hb : b ∈ s.batches) (hv : v.length = s.totals.length) : free (put s (moreOf b v)) = minus (free s) v := by
  have lb := w.len b hb
  have lm : LenB s.totals.length (moreOf b v) := ⟨plus_len lb.1 hv, lb.2⟩
  refine vec_ext (k := s.totals.length) (free_len (s := put s (moreOf b v)) (len_put w.len lm)) (minus_len (free_len w.len) hv) fun i hi => ?_
  rw [free_put (b := moreOf b v) w hb rfl lm i hi, minus_get (free_len w.len) hv, free_get w.len]
  show _ - (_ + (plus b.holds v).getD i 0 - _) = _
  rw [plus_get lb.1 hv]
  have := w.fit i hi
  omega
theorem free_given' {s : State} {b : B} {v : Vec} (w : WF s) (hb : b ∈ s.batches) (hv : v.length = s.totals.length) : free (given s b v) = minus (free s) v := by
  rw [← free_given w hb hv]
  have : held (given s b v) = held (put s (moreOf b v)) := by
    show givenBack _ (given s b v).batches = givenBack _ (put s (moreOf b v)).batches
    have a := give_alike s b v
    rw [giveB_put] at a
    have gb : ∀ {l m : List B} (f : Vec), All2 Alike l m → givenBack f l = givenBack f m := by
      intro l m f h
      induction h generalizing f with
      | nil => rfl
      | cons r _ ih =>
        show givenBack (plus _ _) _ = givenBack (plus _ _) _
        rw [r.2.2, ih]
    exact (gb _ a).symm
  unfold free
  rw [this]
  rfl
/-- the program's look ahead -/
def canGrantP (s : State) (b : B) (v : Vec) : Bool := within v (free s) && safeB (minus (free s) v) (giveB s b v)
theorem canGrant_eq {s : State} {b : B} {v : Vec} (w : WF s) (hb : b ∈ s.batches) (hv : v.length = s.totals.length) : canGrantP s b v = grantable s b v := by
  unfold canGrantP grantable
  rw [safe_eq, free_given' w hb hv, alike_safe (give_alike s b v)]
theorem stuck_given {s : State} {b : B} {v : Vec} (w : WF s) (hb : b ∈ s.batches) (hv : v.length = s.totals.length) : stuck (given s b v) = ids (endAll (minus (free s) v) (giveB s b v)).2 := by
  rw [stuck_eq, free_given' w hb hv]
  exact (alike_ids (alike_end _ _ _ (give_alike s b v)).2).symm
end G
end

section
set_option linter.all false
namespace G
open Vbwbad

/-! ### halving -/
theorem greatest_stop {p : Nat → Bool} {f lo hi : Nat} (h : hi ≤ lo) : greatest p f lo hi = lo := by
  cases f with
  | zero => rfl
  | succ f =>
    unfold greatest
    rw [if_pos h]
theorem greatest_go {p : Nat → Bool} {f lo hi : Nat} (h : lo < hi) : greatest p (f + 1) lo hi = if p ((lo + hi + 1) / 2) = true then greatest p f ((lo + hi + 1) / 2) hi else greatest p f lo ((lo + hi + 1) / 2 - 1) := by
  show (if hi ≤ lo then lo else _) = _
  rw [if_neg (by omega)]
theorem greatest_fuel (p : Nat → Bool) : ∀ (n m lo hi : Nat), hi - lo ≤ n → hi - lo ≤ m → greatest p n lo hi = greatest p m lo hi
  | 0, m, lo, hi, h, _ => by rw [greatest_stop (by omega), greatest_stop (by omega)]
  | n + 1, 0, lo, hi, _, h => by rw [greatest_stop (by omega), greatest_stop (by omega)]
  | n + 1, m + 1, lo, hi, h1, h2 => by
    by_cases c : lo < hi
    · rw [greatest_go c, greatest_go c, greatest_fuel p n m _ hi (by omega) (by omega), greatest_fuel p n m lo _ (by omega) (by omega)]
    · rw [greatest_stop (by omega), greatest_stop (by omega)]
/-- as the program goes: up -/
def upS (p : Nat → Bool) (lo hi : Nat) : Nat := greatest p (hi - lo) lo hi
theorem upS_stop {p : Nat → Bool} {lo hi : Nat} (h : hi ≤ lo) : upS p lo hi = lo := greatest_stop h
theorem upS_go {p : Nat → Bool} {lo hi : Nat} (h : lo < hi) : upS p lo hi = if p ((lo + hi + 1) / 2) = true then upS p ((lo + hi + 1) / 2) hi else upS p lo ((lo + hi + 1) / 2 - 1) := by
  unfold upS
  obtain ⟨n, e⟩ : ∃ n, hi - lo = n + 1 := ⟨hi - lo - 1, by omega⟩
  rw [e, greatest_go h, greatest_fuel p n (hi - (lo + hi + 1) / 2) _ hi (by omega) (by omega), greatest_fuel p n ((lo + hi + 1) / 2 - 1 - lo) lo _ (by omega) (by omega)]
theorem greatest_is {p : Nat → Bool} (down : ∀ m n, m ≤ n → p n = true → p m = true) : ∀ (f lo hi : Nat), hi - lo < 2 ^ f → lo ≤ hi →
    lo ≤ greatest p f lo hi ∧ greatest p f lo hi ≤ hi ∧ (greatest p f lo hi = lo ∨ p (greatest p f lo hi) = true) ∧ ∀ n, greatest p f lo hi < n → n ≤ hi → p n = false
  | 0, lo, hi, h, hle => by
    have : hi = lo := by simp at h; omega
    subst this
    rw [greatest_stop (Nat.le_refl _)]
    exact ⟨Nat.le_refl _, Nat.le_refl _, .inl rfl, fun n h1 h2 => by omega⟩
  | f + 1, lo, hi, h, hle => by
    by_cases c : lo < hi
    · rw [greatest_go c]
      have hp : 2 ^ (f + 1) = 2 * 2 ^ f := by rw [Nat.pow_succ]; omega
      by_cases q : p ((lo + hi + 1) / 2) = true
      · rw [if_pos q]
        obtain ⟨a, b, d, e⟩ := greatest_is down f ((lo + hi + 1) / 2) hi (by omega) (by omega)
        refine ⟨by omega, b, .inr ?_, e⟩
        rcases d with d | d
        · rw [d]
          exact q
        · exact d
      · rw [if_neg q]
        obtain ⟨a, b, d, e⟩ := greatest_is down f lo ((lo + hi + 1) / 2 - 1) (by omega) (by omega)
        refine ⟨a, by omega, d, fun n h1 h2 => ?_⟩
        by_cases z : n ≤ (lo + hi + 1) / 2 - 1
        · exact e n h1 z
        · cases hpn : p n with
          | false => rfl
          | true => exact absurd (down _ n (by omega) hpn) q
    · rw [greatest_stop (by omega)]
      exact ⟨Nat.le_refl _, hle, .inl rfl, fun n h1 h2 => by omega⟩
/-- down -/
def least (p : Nat → Bool) : Nat → Nat → Nat → Nat
  | 0, lo, _ => lo
  | f + 1, lo, hi => if hi ≤ lo then lo else if p ((lo + hi) / 2) = true then least p f lo ((lo + hi) / 2) else least p f ((lo + hi) / 2 + 1) hi
theorem least_stop {p : Nat → Bool} {f lo hi : Nat} (h : hi ≤ lo) : least p f lo hi = lo := by
  cases f with
  | zero => rfl
  | succ f =>
    unfold least
    rw [if_pos h]
theorem least_go {p : Nat → Bool} {f lo hi : Nat} (h : lo < hi) : least p (f + 1) lo hi = if p ((lo + hi) / 2) = true then least p f lo ((lo + hi) / 2) else least p f ((lo + hi) / 2 + 1) hi := by
  show (if hi ≤ lo then lo else _) = _
  rw [if_neg (by omega)]
theorem least_fuel (p : Nat → Bool) : ∀ (n m lo hi : Nat), hi - lo ≤ n → hi - lo ≤ m → least p n lo hi = least p m lo hi
  | 0, m, lo, hi, h, _ => by rw [least_stop (by omega), least_stop (by omega)]
  | n + 1, 0, lo, hi, _, h => by rw [least_stop (by omega), least_stop (by omega)]
  | n + 1, m + 1, lo, hi, h1, h2 => by
    by_cases c : lo < hi
    · rw [least_go c, least_go c, least_fuel p n m lo _ (by omega) (by omega), least_fuel p n m _ hi (by omega) (by omega)]
    · rw [least_stop (by omega), least_stop (by omega)]
def dnS (p : Nat → Bool) (lo hi : Nat) : Nat := least p (hi - lo) lo hi
theorem dnS_stop {p : Nat → Bool} {lo hi : Nat} (h : hi ≤ lo) : dnS p lo hi = lo := least_stop h
theorem dnS_go {p : Nat → Bool} {lo hi : Nat} (h : lo < hi) : dnS p lo hi = if p ((lo + hi) / 2) = true then dnS p lo ((lo + hi) / 2) else dnS p ((lo + hi) / 2 + 1) hi := by
  unfold dnS
  obtain ⟨n, e⟩ : ∃ n, hi - lo = n + 1 := ⟨hi - lo - 1, by omega⟩
  rw [e, least_go h, least_fuel p n ((lo + hi) / 2 - lo) lo _ (by omega) (by omega), least_fuel p n (hi - ((lo + hi) / 2 + 1)) _ hi (by omega) (by omega)]
theorem least_is {p : Nat → Bool} (up : ∀ m n, m ≤ n → p m = true → p n = true) : ∀ (f lo hi : Nat), hi - lo ≤ f → lo ≤ hi → p hi = true →
    lo ≤ least p f lo hi ∧ least p f lo hi ≤ hi ∧ p (least p f lo hi) = true ∧ ∀ n, lo ≤ n → n < least p f lo hi → p n = false
  | 0, lo, hi, h, hle, hp => by
    have : hi = lo := by omega
    subst this
    rw [least_stop (Nat.le_refl _)]
    exact ⟨Nat.le_refl _, Nat.le_refl _, hp, fun n h1 h2 => by omega⟩
  | f + 1, lo, hi, h, hle, hp => by
    by_cases c : lo < hi
    · rw [least_go c]
      by_cases q : p ((lo + hi) / 2) = true
      · rw [if_pos q]
        obtain ⟨a, b, d, e⟩ := least_is up f lo ((lo + hi) / 2) (by omega) (by omega) q
        exact ⟨a, by omega, d, e⟩
      · rw [if_neg q]
        obtain ⟨a, b, d, e⟩ := least_is up f ((lo + hi) / 2 + 1) hi (by omega) (by omega) hp
        refine ⟨by omega, b, d, fun n h1 h2 => ?_⟩
        by_cases z : (lo + hi) / 2 + 1 ≤ n
        · exact e n z h2
        · cases hpn : p n with
          | false => rfl
          | true => exact absurd (up n _ (by omega) hpn) q
    · rw [least_stop (by omega)]
      have : hi = lo := by omega
      subst this
      exact ⟨Nat.le_refl _, Nat.le_refl _, hp, fun n h1 h2 => by omega⟩

/-! ### a batch that holds less, and more is free -/
def setH (i : Nat) (h : Vec) (x : B) : B := if x.id = i then ⟨x.id, x.alts, h, x.want⟩ else x
theorem setH_id (i : Nat) (h : Vec) (x : B) : (setH i h x).id = x.id := by
  unfold setH
  split <;> rfl
theorem wo_setH (i j : Nat) (h : Vec) (l : List B) : wo (l.map (setH i h)) j = (wo l j).map (setH i h) := by
  unfold wo
  rw [List.filter_map]
  congr 1
  apply List.filter_congr
  intro x _
  show ((setH i h x).id != j) = _
  rw [setH_id]
theorem wo_setH_same (i : Nat) (h : Vec) (l : List B) : wo (l.map (setH i h)) i = wo l i := by
  rw [wo_setH]
  conv => rhs; rw [← List.map_id (wo l i)]
  apply List.map_congr_left
  intro x hx
  unfold setH
  rw [if_neg (mem_wo.mp hx).2]
  rfl
theorem Fin.less {k : Nat} {i : Nat} {h : Vec} {f : Vec} {l : List B} (q : Fin f l) : ∀ {g : Vec}, f.length = k → g.length = k → h.length = k → Len k l → within f g = true →
    (∀ x ∈ l, x.id = i → within h x.holds = true ∧ plus f x.holds = plus g h) → Fin g (l.map (setH i h)) := by
  induction q with
  | nil f =>
    intro g _ _ _ _ _ _
    exact .nil g
  | cons f l b hb cb hr ih =>
    intro g hf hg hh hl hw hx
    have lb := hl b hb
    by_cases e : b.id = i
    · obtain ⟨w1, w2⟩ := hx b hb e
      have es : setH i h b = ⟨b.id, b.alts, h, b.want⟩ := by
        unfold setH
        rw [if_pos e]
      refine .cons g _ (setH i h b) (List.mem_map.mpr ⟨b, hb, rfl⟩) ?_ ?_
      · rw [es]
        obtain ⟨a, ha, h1, h2⟩ := (canEnd_iff hf lb).mp cb
        refine (canEnd_iff (k := k) (b := ⟨b.id, b.alts, h, b.want⟩) hg ⟨hh, lb.2⟩).mpr ⟨a, ha, within_trans hh lb.1 (lb.2 a ha) w1 h1, ?_⟩
        show within a (plus h g) = true
        rw [plus_comm h g, ← w2, plus_comm f b.holds]
        exact h2
      · rw [setH_id, e, wo_setH_same, es]
        show Fin (plus g h) _
        rw [← w2, ← e]
        exact hr
    · have es : setH i h b = b := by
        unfold setH
        rw [if_neg e]
      refine .cons g _ b (List.mem_map.mpr ⟨b, hb, es⟩) (canEnd_mono hf hg lb hw cb) ?_
      rw [wo_setH]
      refine ih (plus_len hf lb.1) (plus_len hg lb.1) hh (wo_len hl) (plus_mono hf hg lb.1 hw) fun x hx' ex => ?_
      obtain ⟨w1, w2⟩ := hx x (mem_wo.mp hx').1 ex
      refine ⟨w1, ?_⟩
      rw [plus_right_comm hf lb.1 (hl x (mem_wo.mp hx').1).1, w2, plus_right_comm hg hh lb.1]

/-! ### copies of one kind -/
theorem unit_len (s : State) (j n : Nat) : (unit s j n).length = s.totals.length := by simp [unit]
theorem unit_get (s : State) (j n i : Nat) (hi : i < s.totals.length) : (unit s j n).getD i 0 = if i = j then n else 0 := by
  unfold unit
  rw [List.getD_eq_getElem?_getD, List.getElem?_map, List.getElem?_range hi]
  rfl
theorem giveB_uniq {s : State} (u : Uniq s.batches) (b : B) (v : Vec) : Uniq (giveB s b v) := by
  rw [giveB_put]
  exact uniq_put u
theorem giveB_len {s : State} (w : WF s) {b : B} (hb : b ∈ s.batches) {v : Vec} (hv : v.length = s.totals.length) : Len s.totals.length (giveB s b v) := by
  rw [giveB_put]
  exact len_put w.len ⟨plus_len (w.len b hb).1 hv, (w.len b hb).2⟩
theorem giveB_set {s : State} (u : Uniq s.batches) {b : B} (hb : b ∈ s.batches) (v v' : Vec) : giveB s b v' = (giveB s b v).map (setH b.id (plus b.holds v')) := by
  unfold giveB
  rw [List.map_map]
  apply List.map_congr_left
  intro x hx
  show (if x.id = b.id then moreOf b v' else x) = setH b.id _ (if x.id = b.id then moreOf b v else x)
  by_cases q : x.id = b.id
  · rw [if_pos q, if_pos q]
    unfold setH
    rw [if_pos (show (moreOf b v).id = b.id from rfl)]
    rfl
  · rw [if_neg q, if_neg q]
    unfold setH
    rw [if_neg q]
theorem canGrant_down {s : State} {b : B} {v v' : Vec} (w : WF s) (hb : b ∈ s.batches) (hv : v.length = s.totals.length) (hv' : v'.length = s.totals.length) (hw : within v' v = true) (h : canGrantP s b v = true) : canGrantP s b v' = true := by
  unfold canGrantP at h ⊢
  rw [Bool.and_eq_true] at h ⊢
  obtain ⟨h1, h2⟩ := h
  have fl := free_len w.len
  have lb := w.len b hb
  refine ⟨within_trans hv' hv fl hw h1, ?_⟩
  rw [safeB_iff (k := s.totals.length) _ _ (minus_len fl hv') (giveB_len w hb hv') (giveB_uniq w.uniq b v')]
  rw [safeB_iff (k := s.totals.length) _ _ (minus_len fl hv) (giveB_len w hb hv) (giveB_uniq w.uniq b v)] at h2
  rw [giveB_set w.uniq hb v v']
  have hv1 := (within_iff hv' hv).mp hw
  have hv2 := (within_iff hv fl).mp h1
  refine h2.less (k := s.totals.length) (minus_len fl hv) (minus_len fl hv') (plus_len lb.1 hv') (giveB_len w hb hv) ?_ fun x hx ex => ?_
  · rw [within_iff (minus_len fl hv) (minus_len fl hv')]
    intro i hi
    rw [minus_get fl hv, minus_get fl hv']
    have := hv1 i hi
    omega
  · have : x = moreOf b v := by
      rw [giveB_put] at hx
      rcases mem_put hx with z | ⟨_, z⟩
      · exact z
      · exact absurd ex z
    subst this
    refine ⟨?_, ?_⟩
    · show within (plus b.holds v') (plus b.holds v) = true
      rw [plus_comm b.holds v', plus_comm b.holds v]
      exact plus_mono hv' hv lb.1 hw
    · show plus _ (plus b.holds v) = _
      refine vec_ext (plus_len (minus_len fl hv) (plus_len lb.1 hv)) (plus_len (minus_len fl hv') (plus_len lb.1 hv')) fun i hi => ?_
      rw [plus_get (minus_len fl hv) (plus_len lb.1 hv), plus_get (minus_len fl hv') (plus_len lb.1 hv'), minus_get fl hv, minus_get fl hv', plus_get lb.1 hv, plus_get lb.1 hv']
      have := hv1 i hi
      have := hv2 i hi
      omega
/-- who can be granted may ask -/
theorem fin_may {f : Vec} {l : List B} (h : Fin f l) : Uniq l → ∀ b ∈ l, ∃ g : Vec, canEnd g b = true := by
  induction h with
  | nil f =>
    intro _ b hb
    cases hb
  | cons f l c hc cc hr ih =>
    intro u b hb
    by_cases e : b.id = c.id
    · have : b = c := uniq_eq u hb hc e
      subst this
      exact ⟨f, cc⟩
    · exact ih (uniq_wo u _) b (mem_wo.mpr ⟨hb, e⟩)
theorem canGrant_may {s : State} {b : B} {v : Vec} (w : WF s) (hb : b ∈ s.batches) (hv : v.length = s.totals.length) (h : canGrantP s b v = true) : mayAsk b v = true := by
  unfold canGrantP at h
  rw [Bool.and_eq_true] at h
  rw [safeB_iff (k := s.totals.length) _ _ (minus_len (free_len w.len) hv) (giveB_len w hb hv) (giveB_uniq w.uniq b v)] at h
  have hm : moreOf b v ∈ giveB s b v := List.mem_map.mpr ⟨b, hb, if_pos rfl⟩
  obtain ⟨g, hg⟩ := fin_may h.2 (giveB_uniq w.uniq b v) _ hm
  unfold canEnd at hg
  rw [List.any_eq_true] at hg
  obtain ⟨a, ha, q⟩ := hg
  rw [Bool.and_eq_true] at q
  unfold mayAsk
  rw [List.any_eq_true]
  exact ⟨a, ha, q.1⟩
theorem unit_within {s : State} (j : Nat) {m n : Nat} (h : m ≤ n) : within (unit s j m) (unit s j n) = true := by
  rw [within_iff (unit_len s j m) (unit_len s j n)]
  intro i hi
  rw [unit_get _ _ _ _ hi, unit_get _ _ _ _ hi]
  split <;> omega
theorem unit_free {s : State} (w : WF s) {j n : Nat} (hj : j < s.totals.length) (h : within (unit s j n) (free s) = true) : n ≤ (free s).getD j 0 := by
  have := (within_iff (unit_len s j n) (free_len w.len)).mp h j hj
  rw [unit_get _ _ _ _ hj, if_pos rfl] at this
  exact this
theorem free_le {s : State} (w : WF s) {j : Nat} (hj : j < s.totals.length) : (free s).getD j 0 ≤ s.totals.getD j 0 := by
  rw [free_get w.len]
  omega
theorem total_small {s : State} (w : WF s) {j : Nat} (hj : j < s.totals.length) : s.totals.getD j 0 ≤ 1000000000 := by
  rw [List.getD_eq_getElem?_getD, List.getElem?_eq_getElem hj]
  exact w.small _ (List.getElem_mem hj)
def roomP (s : State) (b : B) (j : Nat) : Nat := upS (fun n => canGrantP s b (unit s j n)) 0 ((free s).getD j 0)
theorem room_eq {s : State} {b : B} (w : WF s) (hb : b ∈ s.batches) {j : Nat} (hj : j < s.totals.length) : room s b j = roomP s b j := by
  have hp : (fun n => mayAsk b (unit s j n) && grantable s b (unit s j n)) = fun n => canGrantP s b (unit s j n) := by
    funext n
    rw [← canGrant_eq w hb (unit_len s j n)]
    cases q : canGrantP s b (unit s j n) with
    | false => simp
    | true => simp [canGrant_may w hb (unit_len s j n) q]
  unfold room roomP
  rw [hp]
  have down : ∀ m n, m ≤ n → canGrantP s b (unit s j n) = true → canGrantP s b (unit s j m) = true := fun m n hmn h =>
    canGrant_down w hb (unit_len s j n) (unit_len s j m) (unit_within j hmn) h
  have bound : ∀ n, canGrantP s b (unit s j n) = true → n ≤ (free s).getD j 0 := fun n h => by
    unfold canGrantP at h
    rw [Bool.and_eq_true] at h
    exact unit_free w hj h.1
  have hf := free_le w hj
  have ht := total_small w hj
  obtain ⟨_, b1, c1, d1⟩ := greatest_is (p := fun n => canGrantP s b (unit s j n)) down 31 0 (s.totals.getD j 0) (by omega) (by omega)
  obtain ⟨_, b2, c2, d2⟩ := greatest_is (p := fun n => canGrantP s b (unit s j n)) down ((free s).getD j 0 - 0) 0 ((free s).getD j 0) (by
    rw [Nat.sub_zero]
    exact Nat.lt_two_pow_self) (by omega)
  unfold upS
  generalize greatest (fun n => canGrantP s b (unit s j n)) 31 0 (s.totals.getD j 0) = r1 at *
  generalize greatest (fun n => canGrantP s b (unit s j n)) ((free s).getD j 0 - 0) 0 ((free s).getD j 0) = r2 at *
  by_cases h1 : r1 < r2
  · have q : canGrantP s b (unit s j r2) = true := by
      rcases c2 with z | z
      · omega
      · exact z
    rw [d1 r2 h1 (by omega)] at q
    cases q
  · by_cases h2 : r2 < r1
    · have q : canGrantP s b (unit s j r1) = true := by
        rcases c1 with z | z
        · omega
        · exact z
      have q1 := bound r1 q
      rw [d2 r1 h2 q1] at q
      cases q
    · omega

/-! ### how many are lacking -/
def safeWith (s : State) (j n : Nat) : Bool := safeB (plus (free s) (unit s j n)) s.batches
theorem safeWith_eq {s : State} (w : WF s) (j n : Nat) : safe (more s j n) = safeWith s j n := by
  have e : free (more s j n) = plus (free s) (unit s j n) := by
    have hl : Len (more s j n).totals.length (more s j n).batches := by
      have : (more s j n).totals.length = s.totals.length := plus_len rfl (unit_len s j n)
      rw [this]
      exact w.len
    have tl : (more s j n).totals.length = s.totals.length := plus_len rfl (unit_len s j n)
    refine vec_ext (k := s.totals.length) ((free_len hl).trans tl) (plus_len (free_len w.len) (unit_len s j n)) fun i hi => ?_
    rw [free_get hl, plus_get (free_len w.len) (unit_len s j n), free_get w.len]
    show (plus s.totals (unit s j n)).getD i 0 - sumAt s.batches i = _
    rw [plus_get rfl (unit_len s j n)]
    have := w.fit i hi
    omega
  rw [safe_eq, e]
  rfl
theorem safeWith_up {s : State} (w : WF s) (j : Nat) (m n : Nat) (h : m ≤ n) (q : safeWith s j m = true) : safeWith s j n = true := by
  unfold safeWith at *
  refine safeB_mono (k := s.totals.length) (plus_len (free_len w.len) (unit_len s j m)) (plus_len (free_len w.len) (unit_len s j n)) w.len w.uniq ?_ q
  rw [plus_comm _ (unit s j m), plus_comm _ (unit s j n)]
  exact plus_mono (unit_len s j m) (unit_len s j n) (free_len w.len) (unit_within j h)
theorem safe_zero {s : State} (w : WF s) (j : Nat) : safe s = safeWith s j 0 := by
  rw [safe_eq]
  unfold safeWith
  have : plus (free s) (unit s j 0) = free s := by
    refine vec_ext (k := s.totals.length) (plus_len (free_len w.len) (unit_len s j 0)) (free_len w.len) fun i hi => ?_
    rw [plus_get (free_len w.len) (unit_len s j 0), unit_get _ _ _ _ hi]
    split <;> omega
  rw [this]
def lackP (s : State) (j : Nat) : Option Nat := if safeWith s j 10000000000 = true then some (dnS (safeWith s j) 0 10000000000) else none
theorem lack_eq {s : State} (w : WF s) (j : Nat) : lack s j = lackP s j := by
  unfold lack lackP
  have e10 : 10 * BIG = 10000000000 := rfl
  rw [e10, safeWith_eq w, safe_zero w j]
  have ep : (fun n => !safe (more s j n)) = fun n => !safeWith s j n := by
    funext n
    rw [safeWith_eq w]
  rw [ep]
  by_cases h : safeWith s j 10000000000 = true
  · rw [if_neg (by simp [h]), if_pos h]
    have up := safeWith_up w j
    obtain ⟨_, a2, a3, a4⟩ := least_is (p := safeWith s j) up (10000000000 - 0) 0 10000000000 (by omega) (by omega) h
    obtain ⟨_, b2, b3, b4⟩ := greatest_is (p := fun n => !safeWith s j n) (fun m n hmn q => by
      cases z : safeWith s j m with
      | false => simp
      | true =>
        rw [up m n hmn z] at q
        cases q) 34 0 10000000000 (by decide) (by omega)
    unfold dnS
    generalize least (safeWith s j) (10000000000 - 0) 0 10000000000 = r at *
    generalize greatest (fun n => !safeWith s j n) 34 0 10000000000 = g at *
    by_cases z : safeWith s j 0 = true
    · rw [if_pos z]
      by_cases hr : r = 0
      · rw [hr]
      · rw [a4 0 (by omega) (by omega)] at z
        cases z
    · rw [if_neg z]
      congr 1
      have g0 : (!safeWith s j g) = true := by
        rcases b3 with q | q
        · rw [q]
          simpa using z
        · exact q
      have hr0 : r ≠ 0 := fun q => by
        rw [q] at a3
        exact z a3
      by_cases h1 : 1 + g < r
      · have q1 := b4 (1 + g) (by omega) (by omega)
        have q2 := a4 (1 + g) (by omega) h1
        simp only [q2] at q1
        cases q1
      · by_cases h2 : r < 1 + g
        · have := up r g (by omega) a3
          rw [this] at g0
          cases g0
        · omega
  · rw [if_pos (by simpa using h), if_neg h]
end G
end

section
set_option linter.all false
namespace G
open Vbwbad

/-! ### the program's counting, by the places that are left -/
def freeThen (bs : List B) (f : Vec) (left : List Nat) : Vec := givenBack f ((bs.zipIdx.filter fun x => !left.contains x.2).map fun x => x.1)
def nextOnes (bs : List B) (f : Vec) (left : List Nat) : List Nat := left.filter fun k => (bs[k]?).any (canEnd (freeThen bs f left))
def lessOne (left : List Nat) (k : Nat) : List Nat := left.filter fun i => i != k
theorem lessOne_lt {left : List Nat} {k : Nat} (h : k ∈ left) : (lessOne left k).length < left.length := by
  unfold lessOne
  apply List.length_filter_lt_length_iff_exists.mpr
  exact ⟨k, h, by simp⟩
theorem mem_next {bs : List B} {f : Vec} {left : List Nat} {k : Nat} (h : k ∈ nextOnes bs f left) : k ∈ left := (List.mem_filter.mp h).1
def manyN (bs : List B) (f : Vec) : Nat → List Nat → Nat
  | 0, _ => 1
  | n + 1, left => if left = [] then 1 else ((nextOnes bs f left).map fun k => manyN bs f n (lessOne left k)).sum
def manyP (bs : List B) (f : Vec) (left : List Nat) : Nat := manyN bs f left.length left
theorem manyN_fuel (bs : List B) (f : Vec) : ∀ (n m : Nat) (left : List Nat), left.length ≤ n → left.length ≤ m → manyN bs f n left = manyN bs f m left
  | 0, 0, left, _, _ => rfl
  | 0, m + 1, left, h, _ => by
    have : left = [] := List.eq_nil_of_length_eq_zero (by omega)
    subst this
    rfl
  | n + 1, 0, left, _, h => by
    have : left = [] := List.eq_nil_of_length_eq_zero (by omega)
    subst this
    rfl
  | n + 1, m + 1, left, h1, h2 => by
    show (if left = [] then 1 else _) = (if left = [] then 1 else _)
    congr 2
    apply List.map_congr_left
    intro k hk
    have := lessOne_lt (mem_next hk)
    exact manyN_fuel bs f n m _ (by omega) (by omega)
theorem manyP_nil (bs : List B) (f : Vec) : manyP bs f [] = 1 := rfl
theorem manyP_go {bs : List B} {f : Vec} {left : List Nat} (h : left ≠ []) : manyP bs f left = ((nextOnes bs f left).map fun k => manyP bs f (lessOne left k)).sum := by
  unfold manyP
  obtain ⟨n, e⟩ : ∃ n, left.length = n + 1 := ⟨left.length - 1, by
    have : left.length ≠ 0 := fun z => h (List.eq_nil_of_length_eq_zero z)
    omega⟩
  rw [e]
  show (if left = [] then 1 else _) = _
  rw [if_neg h]
  congr 1
  apply List.map_congr_left
  intro k hk
  have := lessOne_lt (mem_next hk)
  exact manyN_fuel bs f _ _ _ (by omega) (Nat.le_refl _)
/-- which comes next in the order of a number -/
def pick (g : Nat → Nat) : List Nat → Nat → Option (Nat × Nat)
  | [], _ => none
  | k :: r, m => if m < g k then some (k, m) else pick g r (m - g k)
def nextPlace (bs : List B) (f : Vec) (left : List Nat) (m : Nat) : Nat × Nat := (pick (fun k => manyP bs f (lessOne left k)) (nextOnes bs f left) m).getD (left.headD 0, 0)
theorem pick_mem {g : Nat → Nat} : ∀ {l : List Nat} {m k j : Nat}, pick g l m = some (k, j) → k ∈ l ∧ j < g k
  | [], m, k, j, h => by cases h
  | x :: r, m, k, j, h => by
    unfold pick at h
    by_cases c : m < g x
    · rw [if_pos c] at h
      cases h
      exact ⟨by simp, c⟩
    · rw [if_neg c] at h
      obtain ⟨a, b⟩ := pick_mem h
      exact ⟨by simp [a], b⟩
theorem pick_some {g : Nat → Nat} : ∀ {l : List Nat} {m : Nat}, m < (l.map g).sum → ∃ k j, pick g l m = some (k, j)
  | [], m, h => by simp at h
  | x :: r, m, h => by
    unfold pick
    by_cases c : m < g x
    · rw [if_pos c]
      exact ⟨_, _, rfl⟩
    · rw [if_neg c]
      rw [List.map_cons, List.sum_cons] at h
      exact pick_some (by omega)
def orderP (bs : List B) (f : Vec) : Nat → List Nat → Nat → List Nat
  | 0, _, _ => []
  | n + 1, left, m => if left = [] then [] else (nextPlace bs f left m).1 :: orderP bs f n (lessOne left (nextPlace bs f left m).1) (nextPlace bs f left m).2

/-! ### sets as numbers -/
theorem testBit_add {x i : Nat} (h : x.testBit i = false) (j : Nat) : (x + 2 ^ i).testBit j = (decide (j = i) || x.testBit j) := by
  rw [Nat.add_comm]
  by_cases h1 : j < i
  · rw [Nat.testBit_two_pow_add_gt h1]
    simp [Nat.ne_of_lt h1]
  · by_cases h2 : j = i
    · subst h2
      rw [Nat.testBit_two_pow_add_eq, h]
      simp
    · have hb : x / 2 ^ i % 2 = 0 := by
        rw [Nat.testBit_eq_decide_div_mod_eq] at h
        have := of_decide_eq_false h
        omega
      have hp : 0 < 2 ^ i := Nat.two_pow_pos i
      have e1 : (2 ^ i + x) / 2 ^ (i + 1) = x / 2 ^ (i + 1) := by
        rw [Nat.pow_succ, ← Nat.div_div_eq_div_mul, ← Nat.div_div_eq_div_mul, Nat.add_comm, Nat.add_div_right x hp]
        omega
      have e2 : j = (j - (i + 1)) + (i + 1) := by omega
      rw [e2, ← Nat.testBit_div_two_pow, ← Nat.testBit_div_two_pow, e1]
      have : ¬ (j - (i + 1) + (i + 1) = i) := by omega
      simp [this]
def leftOf (n mask : Nat) : List Nat := (List.range n).filter fun i => !mask.testBit i
theorem mem_leftOf {n mask i : Nat} : i ∈ leftOf n mask ↔ i < n ∧ mask.testBit i = false := by
  unfold leftOf
  rw [List.mem_filter, List.mem_range]
  simp
theorem leftOf_lessOne {n mask i : Nat} (h : mask.testBit i = false) : lessOne (leftOf n mask) i = leftOf n (mask + 2 ^ i) := by
  unfold lessOne leftOf
  rw [List.filter_filter]
  apply List.filter_congr
  intro j _
  rw [testBit_add h]
  by_cases q : j = i
  · simp [q]
  · simp [q]
theorem mask_add_lt {n mask i : Nat} (h : mask < 2 ^ n) (hi : i < n) (hb : mask.testBit i = false) : mask + 2 ^ i < 2 ^ n := by
  apply Classical.byContradiction
  intro z
  have hge : 2 ^ n ≤ mask + 2 ^ i := by omega
  have hlt : mask + 2 ^ i < 2 ^ n + 2 ^ n := by
    have : 2 ^ i < 2 ^ n := Nat.pow_lt_pow_right (by decide) hi
    omega
  have t1 : (mask + 2 ^ i).testBit n = true := by
    rw [Nat.testBit_eq_decide_div_mod_eq]
    have : (mask + 2 ^ i) / 2 ^ n = 1 := by
      rw [Nat.div_eq_iff (Nat.two_pow_pos n)]
      omega
    rw [this]
    decide
  rw [testBit_add hb, Nat.testBit_lt_two_pow h] at t1
  simp at t1
  omega
theorem leftOf_nil {n mask : Nat} (h : mask < 2 ^ n) (e : leftOf n mask = []) : mask = 2 ^ n - 1 := by
  apply Nat.eq_of_testBit_eq
  intro i
  rw [Nat.testBit_two_pow_sub_one]
  by_cases hi : i < n
  · have : i ∉ leftOf n mask := by rw [e]; simp
    rw [mem_leftOf] at this
    cases q : mask.testBit i with
    | true => simp [hi]
    | false => exact absurd ⟨hi, q⟩ this
  · have : mask < 2 ^ i := Nat.lt_of_lt_of_le h (Nat.pow_le_pow_right (by decide) (by omega))
    rw [Nat.testBit_lt_two_pow this]
    simp [hi]
theorem leftOf_full (n : Nat) : leftOf n (2 ^ n - 1) = [] := by
  unfold leftOf
  rw [List.filter_eq_nil_iff]
  intro i hi
  rw [Nat.testBit_two_pow_sub_one]
  simpa using hi
theorem leftOf_zero (n : Nat) : leftOf n 0 = List.range n := by
  unfold leftOf
  rw [List.filter_eq_self]
  intro i _
  simp
theorem freeWith_eq (s : State) (mask : Nat) : freeWith s mask = freeThen s.batches (free s) (leftOf s.batches.length mask) := by
  unfold freeWith freeThen
  rw [List.range_eq_range', ← List.zipIdx_eq_zip_range']
  have key : ∀ (l : List (B × Nat)) (f : Vec), (∀ x ∈ l, x.2 < s.batches.length) →
      l.foldl (fun f x => if mask.testBit x.2 = true then plus f x.1.holds else f) f = givenBack f ((l.filter fun x => !(leftOf s.batches.length mask).contains x.2).map fun x => x.1) := by
    intro l
    induction l with
    | nil => intro f _; rfl
    | cons x r ih =>
      intro f h
      have hx := h x (by simp)
      have hr : ∀ y ∈ r, y.2 < s.batches.length := fun y hy => h y (by simp [hy])
      rw [List.foldl_cons, List.filter_cons]
      have ec : (leftOf s.batches.length mask).contains x.2 = !mask.testBit x.2 := by
        rw [Bool.eq_iff_iff, List.contains_iff_mem, mem_leftOf]
        cases mask.testBit x.2 <;> simp [hx]
      rw [ec]
      cases mask.testBit x.2 with
      | true =>
        simp only [if_true, Bool.not_true, Bool.not_false, List.map_cons]
        rw [ih _ hr]
        rfl
      | false =>
        simp only [Bool.not_false, Bool.not_true, if_neg Bool.false_ne_true]
        exact ih _ hr
  refine key _ _ fun x hx => ?_
  obtain ⟨b, i⟩ := x
  have := List.mem_zipIdx hx
  simp only [Nat.zero_add] at this
  omega
theorem nexts_eq (s : State) (mask : Nat) : nexts s mask = nextOnes s.batches (free s) (leftOf s.batches.length mask) := by
  unfold nexts nextOnes
  dsimp only
  rw [freeWith_eq]
  generalize freeThen s.batches (free s) (leftOf s.batches.length mask) = F
  unfold leftOf
  rw [List.filter_filter, List.range_eq_range']
  have key : ∀ (bs : List B) (a : Nat) (q : B → Bool) (p : Nat → Bool), ((bs.zip (List.range' a bs.length)).filter fun x => p x.2 && q x.1).map (fun x => x.2) = (List.range' a bs.length).filter fun i => (bs[i - a]?).any q && p i := by
    intro bs
    induction bs with
    | nil => intro a q p; rfl
    | cons b r ih =>
      intro a q p
      rw [List.length_cons, List.range'_succ, List.zip_cons_cons, List.filter_cons, List.filter_cons]
      have ec : ((b :: r)[a - a]?).any q = q b := by simp
      have e2 : (List.range' (a + 1) r.length).filter (fun i => ((b :: r)[i - a]?).any q && p i) = (List.range' (a + 1) r.length).filter fun i => (r[i - (a + 1)]?).any q && p i := by
        apply List.filter_congr
        intro i hi
        rw [List.mem_range'_1] at hi
        have : i - a = (i - (a + 1)) + 1 := by omega
        rw [this, List.getElem?_cons_succ]
      have := ih (a + 1) q p
      rw [ec, Bool.and_comm (q b)]
      by_cases c : (p a && q b) = true
      · rw [if_pos c, if_pos c, List.map_cons, this, e2]
      · rw [if_neg c, if_neg c, this, e2]
  have := key s.batches 0 (canEnd F) fun i => !mask.testBit i
  simp only [Nat.sub_zero] at this
  exact this
theorem nextOnes_lt {bs : List B} {f : Vec} {n mask k : Nat} (h : k ∈ nextOnes bs f (leftOf n mask)) : k < n ∧ mask.testBit k = false := mem_leftOf.mp (mem_next h)
theorem foldl_add {α : Type} (g : α → Nat) : ∀ (l : List α) (a : Nat), l.foldl (fun n i => n + g i) a = a + (l.map g).sum
  | [], a => by simp
  | x :: r, a => by
    rw [List.foldl_cons, foldl_add g r, List.map_cons, List.sum_cons]
    omega
def cntM (s : State) (mask : Nat) : Nat := manyP s.batches (free s) (leftOf s.batches.length mask)
theorem counts_len (s : State) : ∀ k, (counts s k).length = k + 1
  | 0 => rfl
  | k + 1 => by
    show (_ :: counts s k).length = _
    rw [List.length_cons, counts_len s k]
theorem counts_is (s : State) : ∀ k, k ≤ 2 ^ s.batches.length - 1 → ∀ t, t ≤ k → (counts s k).getD t 0 = cntM s (2 ^ s.batches.length - 1 - k + t)
  | 0, _, t, ht => by
    have : t = 0 := by omega
    subst this
    show 1 = _
    unfold cntM
    rw [Nat.sub_zero, Nat.add_zero, leftOf_full]
    rfl
  | k + 1, hk, t, ht => by
    have ih := counts_is s k (by omega)
    have hp : 0 < 2 ^ s.batches.length := Nat.two_pow_pos _
    cases t with
    | succ t =>
      show (_ :: counts s k).getD (t + 1) 0 = _
      rw [List.getD_cons_succ, ih t (by omega)]
      congr 1
      omega
    | zero =>
      show (nexts s (2 ^ s.batches.length - 2 - k)).foldl (fun n i => n + (counts s k).getD (2 ^ i - 1) 0) 0 = _
      have em : 2 ^ s.batches.length - 1 - (k + 1) + 0 = 2 ^ s.batches.length - 2 - k := by omega
      rw [em]
      generalize hmask : 2 ^ s.batches.length - 2 - k = mask
      have hm : mask + (k + 2) = 2 ^ s.batches.length := by omega
      have hlt : mask < 2 ^ s.batches.length := by omega
      rw [foldl_add, Nat.zero_add, nexts_eq]
      unfold cntM
      rw [manyP_go (fun z => by
        have := leftOf_nil hlt z
        omega)]
      congr 1
      apply List.map_congr_left
      intro i hi
      obtain ⟨h1, h2⟩ := nextOnes_lt hi
      have h3 := mask_add_lt hlt h1 h2
      have hpi : 0 < 2 ^ i := Nat.two_pow_pos i
      rw [ih (2 ^ i - 1) (by omega), leftOf_lessOne h2]
      unfold cntM
      congr 2
      omega
theorem table_get (s : State) (mask : Nat) (h : mask < 2 ^ s.batches.length) : (table s).getD mask 0 = cntM s mask := by
  unfold table
  rw [counts_is s _ (Nat.le_refl _) mask (by omega)]
  congr 1
  omega
theorem orders_eq (s : State) : orders s = manyP s.batches (free s) (List.range s.batches.length) := by
  have h := table_get s 0 (Nat.two_pow_pos _)
  unfold orders
  have e : (table s).headD 0 = (table s).getD 0 0 := by
    cases table s <;> rfl
  rw [e, h]
  unfold cntM
  rw [leftOf_zero]
theorem foldl_pick (g : Nat → Nat) : ∀ (l : List Nat) (m : Nat), (l.map fun i => (i, g i)).foldl (fun (z : Option Nat × Nat) y => match z.1 with
      | some i => (some i, z.2)
      | none => if z.2 < y.2 then (some y.1, z.2) else (none, z.2 - y.2)) (none, m) = match pick g l m with
        | some (k, j) => (some k, j)
        | none => (none, m - (l.map g).sum)
  | [], m => by simp [pick]
  | x :: r, m => by
    rw [List.map_cons, List.foldl_cons]
    unfold pick
    dsimp only
    by_cases c : m < g x
    · rw [if_pos c, if_pos c]
      have stay : ∀ (l : List (Nat × Nat)) (k j : Nat), l.foldl (fun (z : Option Nat × Nat) y => match z.1 with
          | some i => (some i, z.2)
          | none => if z.2 < y.2 then (some y.1, z.2) else (none, z.2 - y.2)) (some k, j) = (some k, j) := by
        intro l k j
        induction l with
        | nil => rfl
        | cons y l ih => exact ih
      exact stay _ _ _
    · rw [if_neg c, if_neg c, foldl_pick g r (m - g x)]
      cases pick g r (m - g x) with
      | some p => rfl
      | none =>
        dsimp only
        rw [List.map_cons, List.sum_cons]
        congr 1
        omega
theorem length_filter_ne {l : List Nat} {k : Nat} (nd : l.Nodup) (h : k ∈ l) : (l.filter fun i => i != k).length + 1 = l.length := by
  have e := List.Nodup.erase_eq_filter nd k
  have e2 := List.length_erase_of_mem h
  rw [e] at e2
  have : 0 < l.length := List.length_pos_of_mem h
  omega
theorem kth_eq (s : State) : ∀ (n mask m : Nat), mask < 2 ^ s.batches.length → n = (leftOf s.batches.length mask).length → m < cntM s mask →
    kth s (table s) n mask m = orderP s.batches (free s) n (leftOf s.batches.length mask) m
  | 0, mask, m, _, _, _ => rfl
  | n + 1, mask, m, hmask, hn, hm => by
    have hne : leftOf s.batches.length mask ≠ [] := fun z => by
      rw [z] at hn
      cases hn
    unfold cntM at hm
    rw [manyP_go hne] at hm
    obtain ⟨k, j, hp⟩ := pick_some hm
    obtain ⟨hk, hj⟩ := pick_mem hp
    obtain ⟨h1, h2⟩ := nextOnes_lt hk
    have h3 := mask_add_lt hmask h1 h2
    show (let l := (nexts s mask).map fun i => (i, (table s).getD (mask + 2 ^ i) 0)
      let x := l.foldl (fun (z : Option Nat × Nat) y => match z.1 with
        | some i => (some i, z.2)
        | none => if z.2 < y.2 then (some y.1, z.2) else (none, z.2 - y.2)) (none, m)
      match x.1 with
      | none => []
      | some i => i :: kth s (table s) n (mask + 2 ^ i) x.2) = (if leftOf s.batches.length mask = [] then [] else (nextPlace s.batches (free s) (leftOf s.batches.length mask) m).1 :: orderP s.batches (free s) n (lessOne (leftOf s.batches.length mask) (nextPlace s.batches (free s) (leftOf s.batches.length mask) m).1) (nextPlace s.batches (free s) (leftOf s.batches.length mask) m).2)
    rw [if_neg hne]
    have el : (nexts s mask).map (fun i => (i, (table s).getD (mask + 2 ^ i) 0)) = (nextOnes s.batches (free s) (leftOf s.batches.length mask)).map fun i => (i, manyP s.batches (free s) (lessOne (leftOf s.batches.length mask) i)) := by
      rw [nexts_eq]
      apply List.map_congr_left
      intro i hi
      obtain ⟨q1, q2⟩ := nextOnes_lt hi
      rw [table_get s _ (mask_add_lt hmask q1 q2), leftOf_lessOne q2]
      rfl
    have en : nextPlace s.batches (free s) (leftOf s.batches.length mask) m = (k, j) := by
      unfold nextPlace
      rw [hp]
      rfl
    dsimp only
    rw [el, foldl_pick, hp, en]
    dsimp only
    rw [leftOf_lessOne h2] at hj ⊢
    congr 1
    refine kth_eq s n (mask + 2 ^ k) j h3 ?_ hj
    rw [← leftOf_lessOne h2]
    have hle := lessOne_lt (mem_next hk)
    unfold lessOne
    have nd : (leftOf s.batches.length mask).Nodup := List.Nodup.sublist List.filter_sublist List.nodup_range
    have := length_filter_ne nd (mem_next hk)
    omega
end G
end

section
set_option linter.all false
namespace G
open Vbwbad

/-! ### all choices of some of things -/
def subs : List Nat → List (List Nat)
  | [] => [[]]
  | x :: r => (subs r).map (fun l => x :: l) ++ subs r
/-- the fewest first, of equally many the first -/
def lenLe (a b : List Nat) : Bool := decide (a.length < b.length ∨ (a.length = b.length ∧ a ≤ b))
def allP (l : List Nat) : List (List Nat) := (List.range (l.length + 1)).flatMap fun k => parts k l
theorem parts_zero (l : List Nat) : parts 0 l = [[]] := by cases l <;> rfl
theorem parts_big : ∀ (l : List Nat) (k : Nat), l.length < k → parts k l = []
  | [], 0, h => by simp at h
  | [], k + 1, _ => rfl
  | x :: r, 0, h => by simp at h
  | x :: r, k + 1, h => by
    show (parts k r).map _ ++ parts (k + 1) r = []
    rw [List.length_cons] at h
    rw [parts_big r k (by omega), parts_big r (k + 1) (by omega)]
    rfl
theorem parts_len : ∀ (l : List Nat) (k : Nat), ∀ p ∈ parts k l, p.length = k
  | l, 0, p, h => by
    rw [parts_zero] at h
    simp at h
    simp [h]
  | [], k + 1, p, h => by cases h
  | x :: r, k + 1, p, h => by
    have h : p ∈ (parts k r).map (fun l => x :: l) ++ parts (k + 1) r := h
    rw [List.mem_append, List.mem_map] at h
    rcases h with ⟨q, hq, rfl⟩ | h
    · rw [List.length_cons, parts_len r k q hq]
    · exact parts_len r (k + 1) p h
theorem parts_mem : ∀ (l : List Nat) (k : Nat), ∀ p ∈ parts k l, ∀ y ∈ p, y ∈ l
  | l, 0, p, h, y, hy => by
    rw [parts_zero] at h
    simp at h
    subst h
    cases hy
  | [], k + 1, p, h, _, _ => by cases h
  | x :: r, k + 1, p, h, y, hy => by
    have h : p ∈ (parts k r).map (fun l => x :: l) ++ parts (k + 1) r := h
    rw [List.mem_append, List.mem_map] at h
    rcases h with ⟨q, hq, rfl⟩ | h
    · rcases List.mem_cons.mp hy with rfl | hy
      · simp
      · exact List.mem_cons_of_mem _ (parts_mem r k q hq y hy)
    · exact List.mem_cons_of_mem _ (parts_mem r (k + 1) p h y hy)
theorem flatMap_two {α β : Type} (f g : α → List β) : ∀ l : List α, (l.flatMap fun a => f a ++ g a).Perm (l.flatMap f ++ l.flatMap g)
  | [] => by simp
  | a :: l => by
    rw [List.flatMap_cons, List.flatMap_cons, List.flatMap_cons]
    refine ((flatMap_two f g l).append_left (f a ++ g a)).trans ?_
    rw [List.append_assoc, List.append_assoc]
    refine List.Perm.append_left (f a) ?_
    rw [← List.append_assoc, ← List.append_assoc]
    exact List.Perm.append_right _ List.perm_append_comm
theorem subs_perm : ∀ l : List Nat, (subs l).Perm (allP l)
  | [] => by
    show ([[]] : List (List Nat)).Perm _
    have : allP [] = [[]] := by decide
    rw [this]
  | x :: r => by
    have ih := subs_perm r
    show ((subs r).map (fun l => x :: l) ++ subs r).Perm _
    refine ((ih.map (fun l => x :: l)).append ih).trans ?_
    have e1 : allP (x :: r) = parts 0 r ++ (List.range (r.length + 1)).flatMap fun k => (parts k r).map (fun l => x :: l) ++ parts (k + 1) r := by
      unfold allP
      rw [List.length_cons, List.range_succ_eq_map, List.flatMap_cons, List.flatMap_map, parts_zero, parts_zero]
      rfl
    have e2 : allP r = parts 0 r ++ (List.range (r.length + 1)).flatMap fun k => parts (k + 1) r := by
      have : (List.range (r.length + 1 + 1)).flatMap (fun k => parts k r) = allP r := by
        rw [List.range_succ, List.flatMap_append]
        have : [r.length + 1].flatMap (fun k => parts k r) = [] := by
          simp [parts_big r (r.length + 1) (by omega)]
        rw [this, List.append_nil]
        rfl
      rw [← this, List.range_succ_eq_map, List.flatMap_cons, List.flatMap_map]
    have e3 : (allP r).map (fun l => x :: l) = (List.range (r.length + 1)).flatMap fun k => (parts k r).map fun l => x :: l := by
      unfold allP
      rw [List.map_flatMap]
    rw [e3]
    conv => lhs; rw [e2]
    rw [e1, ← List.append_assoc]
    refine (List.Perm.append_right _ List.perm_append_comm).trans ?_
    rw [List.append_assoc]
    exact List.Perm.append_left _ (flatMap_two _ _ _).symm
/-- rising -/
abbrev Ris (l : List Nat) : Prop := l.Pairwise (· < ·)
theorem lex_cons_le {x : Nat} {a b : List Nat} (h : a ≤ b) : (x :: a) ≤ (x :: b) := by
  rw [List.cons_le_cons_iff]
  exact .inr ⟨rfl, h⟩
theorem parts_sorted : ∀ (l : List Nat) (k : Nat), Ris l → (parts k l).Pairwise (· ≤ ·)
  | l, 0, _ => by
    rw [parts_zero]
    simp
  | [], k + 1, _ => List.Pairwise.nil
  | x :: r, k + 1, h => by
    have h := List.pairwise_cons.mp h
    show ((parts k r).map (fun l => x :: l) ++ parts (k + 1) r).Pairwise (· ≤ ·)
    rw [List.pairwise_append]
    refine ⟨?_, parts_sorted r (k + 1) h.2, ?_⟩
    · rw [List.pairwise_map]
      exact (parts_sorted r k h.2).imp fun q => lex_cons_le q
    · intro a ha b hb
      obtain ⟨q, hq, rfl⟩ := List.mem_map.mp ha
      have hl := parts_len r (k + 1) b hb
      match b, hl with
      | y :: b', _ =>
        have hy := h.1 y (parts_mem r (k + 1) _ hb y (by simp))
        rw [List.cons_le_cons_iff]
        exact .inl hy
theorem allP_sorted {l : List Nat} (h : Ris l) : (allP l).Pairwise fun a b => lenLe a b = true := by
  unfold allP
  rw [List.pairwise_flatMap]
  refine ⟨fun k _ => ?_, ?_⟩
  · refine List.Pairwise.imp_of_mem ?_ (parts_sorted l k h)
    intro a b ha hb q
    unfold lenLe
    rw [decide_eq_true_eq, parts_len l k a ha, parts_len l k b hb]
    exact .inr ⟨rfl, q⟩
  · refine List.Pairwise.imp ?_ (List.pairwise_lt_range (n := l.length + 1))
    intro i j hij a ha b hb
    unfold lenLe
    rw [decide_eq_true_eq, parts_len l i a ha, parts_len l j b hb]
    exact .inl hij
theorem lenLe_antisymm {a b : List Nat} (h1 : lenLe a b = true) (h2 : lenLe b a = true) : a = b := by
  unfold lenLe at h1 h2
  rw [decide_eq_true_eq] at h1 h2
  rcases h1 with h1 | ⟨e, h1⟩
  · rcases h2 with h2 | ⟨e2, _⟩ <;> omega
  · rcases h2 with h2 | ⟨_, h2⟩
    · omega
    · exact List.le_antisymm h1 h2
theorem lenLe_trans (a b c : List Nat) (h1 : lenLe a b = true) (h2 : lenLe b c = true) : lenLe a c = true := by
  unfold lenLe at *
  rw [decide_eq_true_eq] at *
  rcases h1 with h1 | ⟨e, h1⟩ <;> rcases h2 with h2 | ⟨e2, h2⟩
  · exact .inl (by omega)
  · exact .inl (by omega)
  · exact .inl (by omega)
  · exact .inr ⟨by omega, List.le_trans h1 h2⟩
theorem lenLe_total (a b : List Nat) : (lenLe a b || lenLe b a) = true := by
  unfold lenLe
  rw [Bool.or_eq_true, decide_eq_true_eq, decide_eq_true_eq]
  by_cases h : a.length < b.length
  · exact .inl (.inl h)
  · by_cases h2 : b.length < a.length
    · exact .inr (.inl h2)
    · rcases List.le_total a b with q | q
      · exact .inl (.inr ⟨by omega, q⟩)
      · exact .inr (.inr ⟨by omega, q⟩)
theorem subs_sort {l : List Nat} (h : Ris l) : (subs l).mergeSort lenLe = allP l := by
  refine List.Perm.eq_of_pairwise (le := fun a b => lenLe a b = true) (fun a b _ _ => lenLe_antisymm) (List.pairwise_mergeSort lenLe_trans lenLe_total _) (allP_sorted h) ?_
  exact (List.mergeSort_perm _ _).trans (subs_perm l)
theorem subs_len : ∀ l : List Nat, (subs l).length = 2 ^ l.length
  | [] => rfl
  | x :: r => by
    show ((subs r).map _ ++ subs r).length = _
    rw [List.length_append, List.length_map, subs_len r, List.length_cons, Nat.pow_succ]
    omega

/-! ### numbers rising -/
theorem rising_mem {x : Nat} : ∀ {l : List Nat} {y : Nat}, y ∈ rising x l ↔ y = x ∨ y ∈ l
  | [], y => by simp [rising]
  | z :: r, y => by
    unfold rising
    by_cases c : x < z
    · rw [if_pos c]
      simp
    · rw [if_neg c, List.mem_cons, rising_mem]
      simp
      constructor
      · rintro (h | h | h) <;> simp [h]
      · rintro (h | h | h) <;> simp [h]
theorem rising_perm (x : Nat) : ∀ l : List Nat, (rising x l).Perm (x :: l)
  | [] => .refl _
  | z :: r => by
    unfold rising
    by_cases c : x < z
    · rw [if_pos c]
    · rw [if_neg c]
      exact ((rising_perm x r).cons z).trans (List.Perm.swap x z r)
theorem rising_ris {x : Nat} : ∀ {l : List Nat}, l.Pairwise (· ≤ ·) → (rising x l).Pairwise (· ≤ ·)
  | [], _ => by simp [rising]
  | z :: r, h => by
    unfold rising
    by_cases c : x < z
    · rw [if_pos c, List.pairwise_cons]
      refine ⟨fun y hy => ?_, h⟩
      rw [List.pairwise_cons] at h
      rcases List.mem_cons.mp hy with rfl | hy
      · omega
      · have := h.1 y hy
        omega
    · rw [if_neg c]
      rw [List.pairwise_cons] at h ⊢
      refine ⟨fun y hy => ?_, rising_ris h.2⟩
      rcases rising_mem.mp hy with rfl | hy
      · omega
      · exact h.1 y hy
theorem foldl_rising : ∀ (l acc : List Nat), acc.Pairwise (· ≤ ·) → (l.foldl (fun l x => rising x l) acc).Pairwise (· ≤ ·) ∧ (l.foldl (fun l x => rising x l) acc).Perm (l ++ acc)
  | [], acc, h => ⟨h, .refl _⟩
  | x :: r, acc, h => by
    obtain ⟨a, b⟩ := foldl_rising r (rising x acc) (rising_ris h)
    refine ⟨a, b.trans ?_⟩
    refine ((rising_perm x acc).append_left r).trans ?_
    exact List.perm_middle
theorem sortedIds_ris {s : State} (u : Uniq s.batches) : Ris (sortedIds s) := by
  obtain ⟨a, b⟩ := foldl_rising (ids s.batches) [] List.Pairwise.nil
  have nd : (sortedIds s).Nodup := by
    refine (List.Perm.nodup_iff (b.trans ?_)).mpr u
    rw [List.append_nil]
  rw [List.nodup_iff_pairwise_ne] at nd
  refine (List.Pairwise.and a nd).imp ?_
  rintro x y ⟨h1, h2⟩
  omega
theorem sortedIds_perm (s : State) : (sortedIds s).Perm (ids s.batches) := by
  obtain ⟨_, b⟩ := foldl_rising (ids s.batches) [] List.Pairwise.nil
  rw [List.append_nil] at b
  exact b
theorem sortedIds_sort {s : State} (l : List Nat) (h : l.Pairwise (· ≤ ·)) (p : l.Perm (ids s.batches)) : l = sortedIds s := by
  obtain ⟨a, _⟩ := foldl_rising (ids s.batches) [] List.Pairwise.nil
  exact List.Perm.eq_of_pairwise (le := fun a b => a ≤ b) (fun x y _ _ h1 h2 => Nat.le_antisymm h1 h2) h a (p.trans (sortedIds_perm s).symm)
theorem sortedIds_len (s : State) : (sortedIds s).length = s.batches.length := by
  rw [(sortedIds_perm s).length_eq]
  simp [ids]
end G
end

section
set_option linter.all false
namespace G
open Vbwbad

/-! ### without some -/
def outOf (l : List B) (gone : List Nat) : List B := l.filter fun b => gone.contains b.id
def leftOff (l : List B) (gone : List Nat) : List B := l.filter fun b => !gone.contains b.id
def safeWo (s : State) (gone : List Nat) : Bool := safeB (givenBack (free s) (outOf s.batches gone)) (leftOff s.batches gone)
theorem sum_parts (l : List B) (p : B → Bool) (i : Nat) : sumAt (l.filter p) i + sumAt (l.filter fun b => !p b) i = sumAt l i := by
  induction l with
  | nil => rfl
  | cons b r ih =>
    rw [List.filter_cons, List.filter_cons]
    cases h : p b with
    | true =>
      simp only [h, Bool.not_true, if_true, sumAt, List.map_cons, List.sum_cons] at ih ⊢
      simp only [Bool.false_eq_true, if_false]
      omega
    | false =>
      simp only [h, Bool.not_false, if_true, sumAt, List.map_cons, List.sum_cons] at ih ⊢
      simp only [Bool.false_eq_true, if_false]
      omega
theorem len_filter {k : Nat} {l : List B} (p : B → Bool) (h : Len k l) : Len k (l.filter p) := fun b hb => h b (List.mem_filter.mp hb).1
theorem uniq_filter {l : List B} (p : B → Bool) (u : Uniq l) : Uniq (l.filter p) := List.Nodup.sublist (List.Sublist.map _ List.filter_sublist) u
theorem free_without {s : State} (w : WF s) (p : B → Bool) : free ⟨s.totals, s.batches.filter p, s.next⟩ = givenBack (free s) (s.batches.filter fun b => !p b) := by
  refine vec_ext (k := s.totals.length) (free_len (s := ⟨s.totals, s.batches.filter p, s.next⟩) (len_filter p w.len)) (givenBack_len (free_len w.len) (len_filter _ w.len)) fun i hi => ?_
  rw [free_get (s := ⟨s.totals, s.batches.filter p, s.next⟩) (len_filter p w.len), givenBack_get (free_len w.len) (len_filter _ w.len), free_get w.len]
  have := sum_parts s.batches p i
  have := w.fit i hi
  show s.totals.getD i 0 - sumAt (s.batches.filter p) i = _
  omega
theorem safeWo_eq {s : State} (w : WF s) (l : List Nat) : safe (without s l) = safeWo s l := by
  rw [safe_eq]
  have := free_without w fun b => !l.contains b.id
  have e : (s.batches.filter fun b => !!l.contains b.id) = outOf s.batches l := by
    unfold outOf
    congr 1
    funext b
    exact Bool.not_not _
  rw [e] at this
  unfold without safeWo leftOff
  rw [this]
def victimsP (s : State) : List (List Nat) := (allP (sortedIds s)).filter fun g => safeWo s g
theorem parts_self : ∀ l : List Nat, l ∈ parts l.length l
  | [] => by simp [parts]
  | x :: r => by
    show x :: r ∈ (parts r.length r).map (fun l => x :: l) ++ parts (r.length + 1) r
    rw [List.mem_append, List.mem_map]
    exact .inl ⟨r, parts_self r, rfl⟩
theorem allP_self (l : List Nat) : l ∈ allP l := by
  unfold allP
  rw [List.mem_flatMap]
  exact ⟨l.length, by simp, parts_self l⟩
theorem safeWo_all (s : State) : safeWo s (sortedIds s) = true := by
  unfold safeWo
  have : leftOff s.batches (sortedIds s) = [] := by
    unfold leftOff
    rw [List.filter_eq_nil_iff]
    intro b hb
    have : b.id ∈ sortedIds s := (sortedIds_perm s).mem_iff.mpr (List.mem_map.mpr ⟨b, hb, rfl⟩)
    simp [this]
  rw [this]
  rfl
theorem victims_ne (s : State) : victimsP s ≠ [] := fun h => by
  unfold victimsP at h
  rw [List.filter_eq_nil_iff] at h
  exact h _ (allP_self _) (safeWo_all s)
theorem fewestFrom_eq {s : State} (w : WF s) : ∀ (f k : Nat), fewestFrom s f k = ((List.range' k f).flatMap fun k => parts k (sortedIds s)).find? fun g => safeWo s g
  | 0, k => rfl
  | f + 1, k => by
    have ih := fewestFrom_eq w f (k + 1)
    rw [List.range'_succ, List.flatMap_cons, List.find?_append, ← ih]
    have e : (fun l => safe (without s l)) = fun g => safeWo s g := by
      funext l
      exact safeWo_eq w l
    show (match (parts k (sortedIds s)).find? (fun l => safe (without s l)) with
      | some l => some l
      | none => fewestFrom s f (k + 1)) = _
    rw [e]
    cases (parts k (sortedIds s)).find? (fun g => safeWo s g) <;> rfl
theorem fewest_eq {s : State} (w : WF s) : fewest s = (victimsP s).headD [] := by
  unfold fewest victimsP allP
  rw [fewestFrom_eq w, sortedIds_len, List.range_eq_range', ← List.head?_filter]
  cases (List.filter _ _) <;> rfl
/-- less of costs, then fewer, then the first -/
def ltC (c : List Nat → Nat) (y a : List Nat) : Bool := decide (c y < c a ∨ (c y = c a ∧ (y.length < a.length ∨ (y.length = a.length ∧ y < a))))
def bestP (c : List Nat → Nat) : List (List Nat) → List Nat
  | [] => []
  | x :: r => r.foldl (fun a y => if ltC c y a = true then y else a) x
theorem ltC_le {c : List Nat → Nat} {y a : List Nat} (h : lenLe a y = true) : ltC c y a = decide (c y < c a) := by
  unfold ltC lenLe at *
  rw [decide_eq_true_eq] at h
  apply decide_eq_decide.mpr
  constructor
  · rintro (q | ⟨_, q | ⟨e, q⟩⟩)
    · exact q
    · omega
    · rcases h with h | ⟨_, h⟩
      · omega
      · exact absurd q h
  · exact .inl
theorem best_fold (c : List Nat → Nat) : ∀ (r : List (List Nat)) (x : List Nat), (∀ y ∈ r, lenLe x y = true) → r.Pairwise (fun a b => lenLe a b = true) →
    r.foldl (fun a y => if ltC c y a = true then y else a) x = r.foldl (fun b p => if c p < c b then p else b) x
  | [], x, _, _ => rfl
  | y :: r, x, h, hp => by
    rw [List.foldl_cons, List.foldl_cons, ltC_le (h y (by simp))]
    rw [List.pairwise_cons] at hp
    have e : (if decide (c y < c x) = true then y else x) = if c y < c x then y else x := by simp
    rw [e]
    refine best_fold c r _ (fun z hz => ?_) hp.2
    by_cases q : c y < c x
    · rw [if_pos q]
      exact hp.1 z hz
    · rw [if_neg q]
      exact h z (by simp [hz])
theorem victims_sorted {s : State} (w : WF s) : (victimsP s).Pairwise fun a b => lenLe a b = true := List.Pairwise.filter _ (allP_sorted (sortedIds_ris w.uniq))
theorem cheapest_eq {s : State} (w : WF s) (cs : List (Nat × Nat)) : cheapest s cs = bestP (costOf cs) (victimsP s) := by
  have e : (allParts s).filter (fun p => safe (without s p)) = victimsP s := by
    unfold allParts victimsP allP
    rw [sortedIds_len]
    congr 1
    funext l
    exact safeWo_eq w l
  unfold cheapest
  dsimp only
  rw [e]
  have hs := victims_sorted w
  cases hv : victimsP s with
  | nil => rfl
  | cons x r =>
    rw [hv] at hs
    rw [List.pairwise_cons] at hs
    exact (best_fold (costOf cs) r x hs.1 hs.2).symm

/-! ### in an order; together -/
def canNot (s : State) : Vec → List Nat → Option Nat
  | _, [] => none
  | f, i :: r => match batchOf s i with
    | none => some i
    | some b => if canEnd f b = true then canNot s (plus f b.holds) r else some i
theorem canNot_eq (s : State) : ∀ (l : List Nat) (f : Vec), orderWrong s f l = canNot s f l
  | [], f => rfl
  | i :: r, f => by
    unfold orderWrong canNot
    cases batchOf s i with
    | none => rfl
    | some b =>
      dsimp only
      rw [canNot_eq s r]
def blockP (s : State) (l : List Nat) : Bool := !(outOf s.batches l).isEmpty && !(outOf s.batches l).any (canEnd (givenBack (free s) (leftOff s.batches l)))
theorem block_eq {s : State} (w : WF s) (l : List Nat) (h : ∀ i ∈ l, i ∈ ids s.batches) : blocks s l = blockP s l := by
  have ef : free (without s ((ids s.batches).filter fun x => !l.contains x)) = givenBack (free s) (leftOff s.batches l) := by
    have e1 : (s.batches.filter fun b => !((ids s.batches).filter fun x => !l.contains x).contains b.id) = s.batches.filter fun b => l.contains b.id := by
      apply List.filter_congr
      intro b hb
      have hm : b.id ∈ ids s.batches := List.mem_map.mpr ⟨b, hb, rfl⟩
      rw [Bool.eq_iff_iff]
      simp [hm]
    have := free_without w fun b => l.contains b.id
    unfold without
    rw [e1, this]
    rfl
  unfold blocks blockP
  dsimp only
  rw [ef]
  congr 1
  · congr 1
    cases l with
    | nil =>
      have : outOf s.batches [] = [] := by
        unfold outOf
        rw [List.filter_eq_nil_iff]
        intro b _
        simp
      rw [this]
      rfl
    | cons i r =>
      obtain ⟨b, hb, e⟩ := List.mem_map.mp (h i (by simp))
      have : b ∈ outOf s.batches (i :: r) := by
        unfold outOf
        rw [List.mem_filter]
        exact ⟨hb, by simp [e]⟩
      cases q : outOf s.batches (i :: r) with
      | nil =>
        rw [q] at this
        cases this
      | cons _ _ => rfl
  · unfold outOf
    rw [Bool.eq_iff_iff]
    simp only [List.all_eq_true, Bool.or_eq_true, Bool.not_eq_true', List.any_eq_false, List.mem_filter]
    constructor
    · rintro q b ⟨hb, hc⟩ z
      rcases q b hb with z1 | z1
      · rw [hc] at z1
        cases z1
      · rw [z] at z1
        cases z1
    · intro q b hb
      cases hc : l.contains b.id with
      | false => exact .inl rfl
      | true =>
        refine .inr ?_
        have := q b ⟨hb, hc⟩
        simpa using this

/-! ### requests that wait, in the order in which they came -/
def wNo (b : B) : Nat := (b.want.map fun w => w.1).getD 0
def waitIds (s : State) : List (Nat × Nat) := (s.batches.filter fun b => b.want.isSome).map fun b => (wNo b, b.id)
theorem putWait_perm (b : B) : ∀ l : List B, (putWait b l).Perm (b :: l)
  | [] => .refl _
  | c :: r => by
    unfold putWait
    have ih := ((putWait_perm b r).cons c).trans (List.Perm.swap b c r)
    cases b.want with
    | none => exact ih
    | some x =>
      cases c.want with
      | none => exact ih
      | some y =>
        dsimp only
        by_cases q : x.1 < y.1
        · rw [if_pos q]
        · rw [if_neg q]
          exact ih
theorem putWait_sorted (b : B) (hb : b.want.isSome = true) : ∀ l : List B, (∀ c ∈ l, c.want.isSome = true) → (l.Pairwise fun a c => wNo a ≤ wNo c) → (putWait b l).Pairwise fun a c => wNo a ≤ wNo c
  | [], _, _ => by simp [putWait]
  | c :: r, hl, hp => by
    have hc := hl c (by simp)
    obtain ⟨x, hx⟩ := Option.isSome_iff_exists.mp hb
    obtain ⟨y, hy⟩ := Option.isSome_iff_exists.mp hc
    have nb : wNo b = x.1 := by simp [wNo, hx]
    have nc : wNo c = y.1 := by simp [wNo, hy]
    unfold putWait
    rw [hx, hy]
    dsimp only
    have hp' := List.pairwise_cons.mp hp
    by_cases q : x.1 < y.1
    · rw [if_pos q, List.pairwise_cons]
      refine ⟨fun d hd => ?_, hp⟩
      rcases List.mem_cons.mp hd with rfl | hd
      · omega
      · have := hp'.1 d hd
        omega
    · rw [if_neg q, List.pairwise_cons]
      refine ⟨fun d hd => ?_, putWait_sorted b hb r (fun d hd => hl d (by simp [hd])) hp'.2⟩
      rcases List.mem_cons.mp ((putWait_perm b r).mem_iff.mp hd) with rfl | hd
      · omega
      · exact hp'.1 d hd
theorem waiting_fold : ∀ (l acc : List B), (∀ c ∈ l, c.want.isSome = true) → (∀ c ∈ acc, c.want.isSome = true) → (acc.Pairwise fun a c => wNo a ≤ wNo c) →
    (l.foldl (fun l b => putWait b l) acc).Pairwise (fun a c => wNo a ≤ wNo c) ∧ (l.foldl (fun l b => putWait b l) acc).Perm (l ++ acc)
  | [], acc, _, _, h => ⟨h, .refl _⟩
  | b :: r, acc, hl, ha, h => by
    have hb := hl b (by simp)
    have hm : ∀ c ∈ putWait b acc, c.want.isSome = true := fun c hc => by
      rcases List.mem_cons.mp ((putWait_perm b acc).mem_iff.mp hc) with rfl | hc
      · exact hb
      · exact ha c hc
    obtain ⟨p, q⟩ := waiting_fold r (putWait b acc) (fun c hc => hl c (by simp [hc])) hm (putWait_sorted b hb acc ha h)
    refine ⟨p, q.trans ?_⟩
    refine ((putWait_perm b acc).append_left r).trans ?_
    exact List.perm_middle
theorem waiting_is (s : State) : (waiting s).Pairwise (fun a c => wNo a ≤ wNo c) ∧ (waiting s).Perm (s.batches.filter fun b => b.want.isSome) := by
  have := waiting_fold (s.batches.filter fun b => b.want.isSome) [] (fun c hc => (List.mem_filter.mp hc).2) (fun _ h => by cases h) List.Pairwise.nil
  rw [List.append_nil] at this
  exact this
/-- whatever sorts the pairs -/
theorem waiting_sort {s : State} (w : WF s) (l : List (Nat × Nat)) (hp : l.Perm (waitIds s)) (hs : l.Pairwise fun a b => a.1 < b.1 ∨ (a.1 = b.1 ∧ a.2 ≤ b.2)) : l.map (fun x => x.2) = ids (waiting s) := by
  obtain ⟨h1, h2⟩ := waiting_is s
  have e : l = (waiting s).map fun b => (wNo b, b.id) := by
    refine List.Perm.eq_of_pairwise (le := fun a b => a.1 ≤ b.1) ?_ (hs.imp fun q => by rcases q with q | q <;> omega) ?_ (hp.trans (h2.map _).symm)
    · intro a b ha hb q1 q2
      have ha' := hp.mem_iff.mp ha
      obtain ⟨c, hc, rfl⟩ := List.mem_map.mp hb
      have hc' := h2.mem_iff.mp hc
      obtain ⟨d, hd, rfl⟩ := List.mem_map.mp ha'
      rw [List.mem_filter] at hc' hd
      obtain ⟨x, hx⟩ := Option.isSome_iff_exists.mp hc'.2
      obtain ⟨y, hy⟩ := Option.isSome_iff_exists.mp hd.2
      have nb : wNo c = x.1 := by simp [wNo, hx]
      have nc : wNo d = y.1 := by simp [wNo, hy]
      dsimp only at q1 q2
      have := w.wuniq c hc'.1 d hd.1 x y hx hy (by omega)
      rw [this]
      congr 1
      omega
    · rw [List.pairwise_map]
      exact h1
  rw [e, List.map_map]
  rfl
end G
end

section
set_option linter.all false
namespace G
open Vbwbad

/-! ### states stay as they should be -/
theorem wf_put {s : State} (w : WF s) {b c : B} (hb : b ∈ s.batches) (e : c.id = b.id) (hl : LenB s.totals.length c) (hw : ∀ x, c.want = some x → x.2.length = s.totals.length ∧ x.1 < s.next)
    (hu : ∀ x, c.want = some x → ∃ y, b.want = some y ∧ y.1 = x.1) (ha : c.alts.length ≤ 4) (hf : ∀ i, i < s.totals.length → c.holds.getD i 0 ≤ b.holds.getD i 0 + (free s).getD i 0) : WF (put s c) := by
  have hlen : Len s.totals.length (put s c).batches := len_put w.len hl
  refine ⟨hlen, fun d hd x hx => ?_, uniq_put w.uniq, fun d hd => ?_, fun d hd d' hd' x x' hx hx' ex => ?_, ?_, ?_, fun d hd => ?_, w.kinds, w.small⟩
  · rcases mem_put hd with rfl | ⟨q, _⟩
    · exact hw x hx
    · exact w.wlen d q x hx
  · rcases mem_put hd with rfl | ⟨q, _⟩
    · rw [e]
      exact w.okid b hb
    · exact w.okid d q
  · have key : ∀ d, d ∈ (put s c).batches → ∀ x, d.want = some x → ∃ f, f ∈ s.batches ∧ f.id = d.id ∧ ∃ y, f.want = some y ∧ y.1 = x.1 := by
      intro d hd x hx
      rcases mem_put hd with rfl | ⟨q, _⟩
      · obtain ⟨y, hy, ey⟩ := hu x hx
        exact ⟨b, hb, e.symm, y, hy, ey⟩
      · exact ⟨d, q, rfl, x, hx, rfl⟩
    obtain ⟨f, f1, f2, y, f3, f4⟩ := key d hd x hx
    obtain ⟨f', g1, g2, y', g3, g4⟩ := key d' hd' x' hx'
    have := w.wuniq f f1 f' g1 y y' f3 g3 (by omega)
    omega
  · refine fits_of (s := put s c) hlen fun i hi => ?_
    have := sumAt_map w.uniq hb (b := c) e.symm i
    have h1 := hf i hi
    have h2 := w.fit i hi
    rw [free_get w.len] at h1
    show sumAt (put s c).batches i ≤ s.totals.getD i 0
    rw [put_batches]
    omega
  · rw [put_batches, List.length_map]
    exact w.few
  · rcases mem_put hd with rfl | ⟨q, _⟩
    · exact ha
    · exact w.fewA d q
/-- more of it is held, as much as is free -/
theorem wf_more {s : State} (w : WF s) {b : B} (hb : b ∈ s.batches) {v : Vec} (hv : v.length = s.totals.length) (hf : within v (free s) = true) (o : Option (Nat × Vec)) (ho : o = b.want ∨ o = none) : WF (put s ⟨b.id, b.alts, plus b.holds v, o⟩) := by
  have lb := w.len b hb
  refine wf_put w hb rfl ⟨plus_len lb.1 hv, lb.2⟩ (fun x hx => ?_) (fun x hx => ?_) (w.fewA b hb) fun i hi => ?_
  · rcases ho with ho | ho
    · exact w.wlen b hb x (by rw [← ho]; exact hx)
    · rw [ho] at hx
      cases hx
  · rcases ho with ho | ho
    · exact ⟨x, by rw [← ho]; exact hx, rfl⟩
    · rw [ho] at hx
      cases hx
  · show (plus b.holds v).getD i 0 ≤ _
    rw [plus_get lb.1 hv]
    have := (within_iff hv (free_len w.len)).mp hf i hi
    omega
theorem wf_back {s : State} (w : WF s) {b : B} (hb : b ∈ s.batches) {v : Vec} (hv : v.length = s.totals.length) : WF (put s ⟨b.id, b.alts, minus b.holds v, b.want⟩) := by
  have lb := w.len b hb
  refine wf_put w hb rfl ⟨minus_len lb.1 hv, lb.2⟩ (w.wlen b hb) (fun x hx => ⟨x, hx, rfl⟩) (w.fewA b hb) fun i hi => ?_
  show (minus b.holds v).getD i 0 ≤ _
  rw [minus_get lb.1 hv]
  omega
theorem wf_drop {s : State} (w : WF s) {b : B} (hb : b ∈ s.batches) : WF (put s ⟨b.id, b.alts, b.holds, none⟩) := by
  refine wf_put w hb rfl (w.len b hb) (fun x hx => (by cases hx)) (fun x hx => (by cases hx)) (w.fewA b hb) fun i hi => ?_
  show b.holds.getD i 0 ≤ _
  omega
theorem wf_next {s : State} (w : WF s) : WF ⟨s.totals, s.batches, s.next + 1⟩ := ⟨w.len, fun b hb x hx => ⟨(w.wlen b hb x hx).1, Nat.lt_succ_of_lt (w.wlen b hb x hx).2⟩, w.uniq, w.okid, w.wuniq, w.fits, w.few, w.fewA, w.kinds, w.small⟩
/-- it waits, for the first time or again -/
theorem wf_wait {s : State} (w : WF s) {b : B} (hb : b ∈ s.batches) {v : Vec} (hv : v.length = s.totals.length) : WF ⟨s.totals, (put s ⟨b.id, b.alts, b.holds, some (s.next, v)⟩).batches, s.next + 1⟩ := by
  have lb := w.len b hb
  have hlen : Len s.totals.length (put s ⟨b.id, b.alts, b.holds, some (s.next, v)⟩).batches := len_put w.len lb
  have w0 := wf_drop w hb
  refine ⟨hlen, fun d hd x hx => ?_, uniq_put w.uniq, fun d hd => ?_, fun d hd d' hd' x x' hx hx' ex => ?_, ?_, ?_, fun d hd => ?_, w.kinds, w.small⟩
  · rcases mem_put hd with rfl | ⟨q, _⟩
    · cases hx
      exact ⟨hv, Nat.lt_succ_self _⟩
    · exact ⟨(w.wlen d q x hx).1, Nat.lt_succ_of_lt (w.wlen d q x hx).2⟩
  · rcases mem_put hd with rfl | ⟨q, _⟩
    · exact w.okid b hb
    · exact w.okid d q
  · rcases mem_put hd with rfl | ⟨q, _⟩
    · rcases mem_put hd' with rfl | ⟨q', _⟩
      · rfl
      · cases hx
        have := (w.wlen d' q' x' hx').2
        omega
    · rcases mem_put hd' with rfl | ⟨q', _⟩
      · cases hx'
        have := (w.wlen d q x hx).2
        omega
      · exact w.wuniq d q d' q' x x' hx hx' ex
  · refine fits_of (s := ⟨s.totals, (put s ⟨b.id, b.alts, b.holds, some (s.next, v)⟩).batches, s.next + 1⟩) hlen fun i hi => ?_
    have := sumAt_map w.uniq hb (b := ⟨b.id, b.alts, b.holds, some (s.next, v)⟩) rfl i
    have h2 := w.fit i hi
    show sumAt (put s ⟨b.id, b.alts, b.holds, some (s.next, v)⟩).batches i ≤ s.totals.getD i 0
    rw [put_batches]
    dsimp only at this ⊢
    omega
  · show (put s _).batches.length ≤ 10
    rw [put_batches, List.length_map]
    exact w.few
  · rcases mem_put hd with rfl | ⟨q, _⟩
    · exact w.fewA b hb
    · exact w.fewA d q
theorem wf_filter {s : State} (w : WF s) (p : B → Bool) : WF ⟨s.totals, s.batches.filter p, s.next⟩ := by
  have hm : ∀ b, b ∈ s.batches.filter p → b ∈ s.batches := fun b hb => (List.mem_filter.mp hb).1
  refine ⟨len_filter p w.len, fun b hb => w.wlen b (hm b hb), uniq_filter p w.uniq, fun b hb => w.okid b (hm b hb), fun b hb c hc => w.wuniq b (hm b hb) c (hm c hc), ?_, ?_, fun b hb => w.fewA b (hm b hb), w.kinds, w.small⟩
  · refine fits_of (s := ⟨s.totals, s.batches.filter p, s.next⟩) (len_filter p w.len) fun i hi => ?_
    have := sum_parts s.batches p i
    have := w.fit i hi
    show sumAt (s.batches.filter p) i ≤ s.totals.getD i 0
    omega
  · exact Nat.le_trans (List.length_filter_le _ _) w.few
theorem wf_copies {s : State} (w : WF s) {j n : Nat} (hj : j < s.totals.length) (h : s.totals.getD j 0 + n ≤ 1000000000) : WF (more s j n) := by
  have tl : (more s j n).totals.length = s.totals.length := plus_len rfl (unit_len s j n)
  refine ⟨by rw [tl]; exact w.len, fun b hb x hx => by rw [tl]; exact w.wlen b hb x hx, w.uniq, w.okid, w.wuniq, ?_, w.few, w.fewA, by rw [tl]; exact w.kinds, ?_⟩
  · refine fits_of (s := more s j n) (by rw [tl]; exact w.len) fun i hi => ?_
    rw [tl] at hi
    show sumAt s.batches i ≤ (plus s.totals (unit s j n)).getD i 0
    rw [plus_get rfl (unit_len s j n)]
    have := w.fit i hi
    omega
  · intro x hx
    obtain ⟨i, hi, rfl⟩ := List.mem_iff_getElem.mp hx
    have e : (more s j n).totals[i] = (plus s.totals (unit s j n)).getD i 0 := by
      rw [List.getD_eq_getElem?_getD]
      have : (plus s.totals (unit s j n))[i]? = some (more s j n).totals[i] := List.getElem?_eq_getElem hi
      rw [this]
      rfl
    have hi' : i < s.totals.length := by rw [← tl]; exact hi
    rw [e, plus_get rfl (unit_len s j n), unit_get _ _ _ _ hi']
    by_cases q : i = j
    · subst q
      rw [if_pos rfl]
      exact h
    · rw [if_neg q]
      have := total_small w hi'
      omega
theorem wf_new {l : Vec} (hk : l.length ≤ 6) (hs : ∀ n ∈ l, n ≤ 1000000000) : WF ⟨l, [], 0⟩ := by
  refine ⟨fun _ h => (by cases h), fun _ h => (by cases h), (by simp [Uniq, ids]), fun _ h => (by cases h), fun _ h => (by cases h), ?_, (by simp), fun _ h => (by cases h), hk, hs⟩
  refine fits_of (s := ⟨l, [], 0⟩) (fun _ h => (by cases h)) fun i _ => ?_
  exact Nat.zero_le _
theorem wf_add {s : State} (w : WF s) {i : Nat} {alts : List Vec} (hi : 1 ≤ i ∧ i ≤ 1000000000) (hn : batchOf s i = none) (hf : s.batches.length < 10) (ha : alts.length ≤ 4) (hl : ∀ a ∈ alts, a.length = s.totals.length) : WF ⟨s.totals, s.batches ++ [⟨i, alts, zero s, none⟩], s.next⟩ := by
  have hm : ∀ b, b ∈ s.batches ++ [(⟨i, alts, zero s, none⟩ : B)] → b ∈ s.batches ∨ b = ⟨i, alts, zero s, none⟩ := fun b hb => by simpa using hb
  have hlen : Len s.totals.length (s.batches ++ [(⟨i, alts, zero s, none⟩ : B)]) := fun b hb => by
    rcases hm b hb with q | rfl
    · exact w.len b q
    · exact ⟨zero_len s, hl⟩
  refine ⟨hlen, fun b hb x hx => ?_, ?_, fun b hb => ?_, fun b hb c hc x y hx hy e => ?_, ?_, ?_, fun b hb => ?_, w.kinds, w.small⟩
  · rcases hm b hb with q | rfl
    · exact w.wlen b q x hx
    · cases hx
  · unfold Uniq ids
    rw [List.map_append, List.nodup_append]
    refine ⟨w.uniq, by simp, fun a ha b hb q => ?_⟩
    obtain ⟨c, hc, rfl⟩ := List.mem_map.mp ha
    have : b = i := by simpa using hb
    subst this
    unfold batchOf at hn
    rw [List.find?_eq_none] at hn
    exact hn c hc (by simp [q])
  · rcases hm b hb with q | rfl
    · exact w.okid b q
    · exact hi
  · rcases hm b hb with q | rfl
    · rcases hm c hc with q' | rfl
      · exact w.wuniq b q c q' x y hx hy e
      · cases hy
    · cases hx
  · refine fits_of (s := ⟨s.totals, s.batches ++ [⟨i, alts, zero s, none⟩], s.next⟩) hlen fun j hj => ?_
    have := w.fit j hj
    show sumAt (s.batches ++ [⟨i, alts, zero s, none⟩]) j ≤ s.totals.getD j 0
    unfold sumAt at this ⊢
    rw [List.map_append, List.sum_append]
    have e : ([(⟨i, alts, zero s, none⟩ : B)].map fun b => b.holds.getD j 0).sum = 0 := by
      show (zero s).getD j 0 + 0 = 0
      unfold zero
      rw [zero_get]
    rw [e]
    exact this
  · show (s.batches ++ _).length ≤ 10
    rw [List.length_append]
    show s.batches.length + 1 ≤ 10
    omega
  · rcases hm b hb with q | rfl
    · exact w.fewA b q
    · exact ha

/-! ### requests looked at again -/
/-- all these wait -/
def Wait (s : State) (l : List Nat) : Prop := l.Nodup ∧ ∀ i ∈ l, ∃ b, batchOf s i = some b ∧ b.want.isSome = true
theorem wait_start {s : State} (w : WF s) : Wait s (ids (waiting s)) := by
  obtain ⟨_, h2⟩ := waiting_is s
  have hp : (ids (waiting s)).Perm (ids (s.batches.filter fun b => b.want.isSome)) := h2.map _
  refine ⟨(hp.nodup_iff).mpr (uniq_filter _ w.uniq), fun i hi => ?_⟩
  obtain ⟨b, hb, e⟩ := List.mem_map.mp (hp.mem_iff.mp hi)
  rw [List.mem_filter] at hb
  refine ⟨b, ?_, hb.2⟩
  rw [← e]
  exact batchOf_mem w.uniq hb.1
theorem batchOf_put {s : State} {c : B} {i : Nat} (h : i ≠ c.id) : batchOf (put s c) i = batchOf s i := by
  unfold batchOf
  rw [put_batches]
  induction s.batches with
  | nil => rfl
  | cons b r ih =>
    rw [List.map_cons, List.find?_cons, List.find?_cons, ih]
    by_cases q : b.id = c.id
    · have h1 : (c.id == i) = false := by simpa using fun z => h z.symm
      have h2 : (b.id == i) = false := by simpa using fun z => h (z.symm.trans q)
      rw [if_pos q, h1, h2]
    · rw [if_neg q]
theorem wait_next {s : State} {i : Nat} {l : List Nat} (h : Wait s (i :: l)) : Wait s l := ⟨(List.nodup_cons.mp h.1).2, fun j hj => h.2 j (by simp [hj])⟩
theorem wait_put {s : State} {c : B} {i : Nat} {l : List Nat} (h : Wait s (i :: l)) (e : c.id = i) : Wait (put s c) l := ⟨(List.nodup_cons.mp h.1).2, fun j hj => by
  have : j ≠ c.id := fun z => (List.nodup_cons.mp h.1).1 (by rw [← e, ← z]; exact hj)
  rw [batchOf_put this]
  exact h.2 j (by simp [hj])⟩
theorem again_cons (s : State) (i : Nat) (r : List Nat) : again (i :: r) s = (match batchOf s i with
    | none => again r s
    | some b => match b.want with
      | none => again r s
      | some w => if grantable s b w.2 = true then (let x := again r (given s b w.2); (x.1, i :: x.2)) else again r s) := rfl
theorem again_yes {s : State} {i : Nat} {r : List Nat} {b : B} {w : Nat × Vec} (hb : batchOf s i = some b) (hw : b.want = some w) (hg : grantable s b w.2 = true) : again (i :: r) s = ((again r (given s b w.2)).1, i :: (again r (given s b w.2)).2) := by
  rw [again_cons, hb]
  dsimp only
  rw [hw]
  dsimp only
  rw [if_pos hg]
theorem again_no {s : State} {i : Nat} {r : List Nat} {b : B} {w : Nat × Vec} (hb : batchOf s i = some b) (hw : b.want = some w) (hg : grantable s b w.2 = false) : again (i :: r) s = again r s := by
  rw [again_cons, hb]
  dsimp only
  rw [hw]
  dsimp only
  rw [if_neg (by rw [hg]; exact Bool.false_ne_true)]
theorem again_len : ∀ (l : List Nat) (s : State), (again l s).2.length ≤ l.length
  | [], s => Nat.le_refl _
  | i :: r, s => by
    rw [again_cons]
    cases batchOf s i with
    | none => exact Nat.le_succ_of_le (again_len r s)
    | some b =>
      dsimp only
      cases b.want with
      | none => exact Nat.le_succ_of_le (again_len r s)
      | some w =>
        dsimp only
        by_cases h : grantable s b w.2 = true
        · rw [if_pos h]
          exact Nat.succ_le_succ (again_len r _)
        · rw [if_neg h]
          exact Nat.le_succ_of_le (again_len r s)
end G
end

section
set_option Elab.async false
set_option linter.all false
set_option maxRecDepth 100000
set_option maxHeartbeats 4000000
namespace G
open PySem PySem.Spec PyProof.Rows L2
/-! ### the text, by places -/
def top (i : Nat) : Stmt := PySem.Challenge.pw_safegrants_s01_answers.main.body.getD i (.Pass ⟨0, 0, 0, 0⟩)
abbrev s_is_within : Stmt := top 1
abbrev s_more : Stmt := top 2
abbrev s_less : Stmt := top 3
abbrev s_Request_init : Stmt := inClass (top 4) 0
abbrev s_Batch_init : Stmt := inClass (top 5) 0
abbrev s_Batch_may_hold : Stmt := inClass (top 5) 1
abbrev s_Batch_may_get : Stmt := inClass (top 5) 2
abbrev s_Batch_can_end : Stmt := inClass (top 5) 3
abbrev s_Batch_can_go_on : Stmt := inClass (top 5) 4
abbrev s_Batch_holding : Stmt := inClass (top 5) 5
abbrev s_Batch_waiting : Stmt := inClass (top 5) 6
abbrev s_numbers_of : Stmt := top 6
abbrev s_given_back : Stmt := top 7
abbrev s_first_that_ends : Stmt := top 9
abbrev s_without : Stmt := top 10
abbrev s_ended : Stmt := top 11
abbrev s_is_safe : Stmt := top 12
abbrev s_locked : Stmt := top 14
abbrev s_Orders_init : Stmt := inClass (top 16) 0
abbrev s_Orders_free_then : Stmt := inClass (top 16) 1
abbrev s_Orders_next_ones : Stmt := inClass (top 16) 2
abbrev s_Orders_many : Stmt := inClass (top 16) 3
abbrev s_Orders_all_places : Stmt := inClass (top 16) 4
abbrev s_Orders_next_place : Stmt := inClass (top 16) 5
abbrev s_Orders_order : Stmt := inClass (top 16) 6
abbrev s_less_one : Stmt := top 17
abbrev s_all_choices : Stmt := top 20
abbrev s_House_init : Stmt := inClass (top 21) 0
abbrev s_House_free : Stmt := inClass (top 21) 1
abbrev s_House_find : Stmt := inClass (top 21) 2
abbrev s_House_with_batch : Stmt := inClass (top 21) 3
abbrev s_House_with_more : Stmt := inClass (top 21) 4
abbrev s_House_stuck_with : Stmt := inClass (top 21) 5
abbrev s_House_can_grant : Stmt := inClass (top 21) 6
abbrev s_House_is_safe : Stmt := inClass (top 21) 7
abbrev s_House_ask : Stmt := inClass (top 21) 8
abbrev s_House_waiting : Stmt := inClass (top 21) 9
abbrev s_House_look_again : Stmt := inClass (top 21) 10
abbrev s_House_room : Stmt := inClass (top 21) 11
abbrev s_House_copies : Stmt := inClass (top 21) 12
abbrev s_House_is_safe_with : Stmt := inClass (top 21) 13
abbrev s_House_lack : Stmt := inClass (top 21) 14
abbrev s_House_is_safe_without : Stmt := inClass (top 21) 15
abbrev s_House_all_victims : Stmt := inClass (top 21) 16
abbrev s_House_cheapest : Stmt := inClass (top 21) 17
abbrev s_House_all_orders : Stmt := inClass (top 21) 18
abbrev s_House_first_that_cannot : Stmt := inClass (top 21) 19
abbrev s_House_do_block : Stmt := inClass (top 21) 20
abbrev s_House_locked : Stmt := inClass (top 21) 21
abbrev s_House_add : Stmt := inClass (top 21) 22
abbrev s_House_remove : Stmt := inClass (top 21) 23
abbrev s_Refused_init : Stmt := inClass (top 38) 0
abbrev s_want : Stmt := top 39
abbrev s_listed : Stmt := top 40
abbrev s_are_numbers : Stmt := top 41
abbrev s_Desk_init : Stmt := inClass (top 42) 0
abbrev s_Desk_want_list : Stmt := inClass (top 42) 1
abbrev s_Desk_batch_of : Stmt := inClass (top 42) 2
abbrev s_Desk_want_kind : Stmt := inClass (top 42) 3
abbrev s_Desk_begin : Stmt := inClass (top 42) 4
abbrev s_Desk_add_batch : Stmt := inClass (top 42) 5
abbrev s_Desk_ask : Stmt := inClass (top 42) 6
abbrev s_Desk_give : Stmt := inClass (top 42) 7
abbrev s_Desk_looked_again : Stmt := inClass (top 42) 8
abbrev s_Desk_back : Stmt := inClass (top 42) 9
abbrev s_Desk_end : Stmt := inClass (top 42) 10
abbrev s_Desk_drop : Stmt := inClass (top 42) 11
abbrev s_Desk_add_copies : Stmt := inClass (top 42) 12
abbrev s_Desk_safe : Stmt := inClass (top 42) 13
abbrev s_Desk_could : Stmt := inClass (top 42) 14
abbrev s_Desk_room : Stmt := inClass (top 42) 15
abbrev s_Desk_lack : Stmt := inClass (top 42) 16
abbrev s_Desk_want_batches : Stmt := inClass (top 42) 17
abbrev s_Desk_cheapest : Stmt := inClass (top 42) 18
abbrev s_Desk_many_orders : Stmt := inClass (top 42) 19
abbrev s_Desk_order : Stmt := inClass (top 42) 20
abbrev s_Desk_check : Stmt := inClass (top 42) 21
abbrev s_Desk_blocks : Stmt := inClass (top 42) 22
abbrev s_Desk_told_of : Stmt := inClass (top 42) 23
abbrev s_Desk_all_told : Stmt := inClass (top 42) 24
abbrev s_Desk_of_batch : Stmt := inClass (top 42) 25
abbrev s_Desk_of_row : Stmt := inClass (top 42) 26
abbrev s_Desk_asked : Stmt := inClass (top 42) 27
abbrev s_Desk_done : Stmt := inClass (top 42) 28
abbrev s_Desk_answer : Stmt := inClass (top 42) 29
abbrev s_rows_at : Stmt := top 43
abbrev s_answers : Stmt := top 44
theorem sc_is_within : FnScope ["one", "other", "number", "most"] ["one", "other"] (defScope s_is_within) := ⟨rfl, rfl, rfl, by decide +kernel, rfl, by decide +kernel, by decide +kernel⟩
theorem sc_more : FnScope ["one", "other", "number", "further"] ["one", "other"] (defScope s_more) := ⟨rfl, rfl, rfl, by decide +kernel, rfl, by decide +kernel, by decide +kernel⟩
theorem sc_less : FnScope ["one", "other", "number", "further"] ["one", "other"] (defScope s_less) := ⟨rfl, rfl, rfl, by decide +kernel, rfl, by decide +kernel, by decide +kernel⟩
theorem sc_Request_init : FnScope ["self", "number", "things"] ["self", "number", "things"] (defScope s_Request_init) := ⟨rfl, rfl, rfl, by decide +kernel, rfl, by decide +kernel, by decide +kernel⟩
theorem sc_Batch_init : FnScope ["self", "number", "alternatives", "held", "request"] ["self", "number", "alternatives", "held", "request"] (defScope s_Batch_init) := ⟨rfl, rfl, rfl, by decide +kernel, rfl, by decide +kernel, by decide +kernel⟩
theorem sc_Batch_may_hold : FnScope ["self", "things", "alternative"] ["self", "things"] (defScope s_Batch_may_hold) := ⟨rfl, rfl, rfl, by decide +kernel, rfl, by decide +kernel, by decide +kernel⟩
theorem sc_Batch_may_get : FnScope ["self", "things"] ["self", "things"] (defScope s_Batch_may_get) := ⟨rfl, rfl, rfl, by decide +kernel, rfl, by decide +kernel, by decide +kernel⟩
theorem sc_Batch_can_end : FnScope ["self", "free", "have", "one"] ["self", "free"] (defScope s_Batch_can_end) := ⟨rfl, rfl, rfl, by decide +kernel, rfl, by decide +kernel, by decide +kernel⟩
theorem sc_Batch_can_go_on : FnScope ["self", "free"] ["self", "free"] (defScope s_Batch_can_go_on) := ⟨rfl, rfl, rfl, by decide +kernel, rfl, by decide +kernel, by decide +kernel⟩
theorem sc_Batch_holding : FnScope ["self", "held"] ["self", "held"] (defScope s_Batch_holding) := ⟨rfl, rfl, rfl, by decide +kernel, rfl, by decide +kernel, by decide +kernel⟩
theorem sc_Batch_waiting : FnScope ["self", "request"] ["self", "request"] (defScope s_Batch_waiting) := ⟨rfl, rfl, rfl, by decide +kernel, rfl, by decide +kernel, by decide +kernel⟩
theorem sc_numbers_of : FnScope ["batches", "batch"] ["batches"] (defScope s_numbers_of) := ⟨rfl, rfl, rfl, by decide +kernel, rfl, by decide +kernel, by decide +kernel⟩
theorem sc_given_back : FnScope ["free", "batches", "batch"] ["free", "batches"] (defScope s_given_back) := ⟨rfl, rfl, rfl, by decide +kernel, rfl, by decide +kernel, by decide +kernel⟩
theorem sc_first_that_ends : FnScope ["batches", "free", "batch"] ["batches", "free"] (defScope s_first_that_ends) := ⟨rfl, rfl, rfl, by decide +kernel, rfl, by decide +kernel, by decide +kernel⟩
theorem sc_without : FnScope ["batches", "gone", "batch"] ["batches", "gone"] (defScope s_without) := ⟨rfl, rfl, rfl, by decide +kernel, rfl, by decide +kernel, by decide +kernel⟩
theorem sc_ended : FnScope ["batches", "free", "order", "left", "batch"] ["batches", "free"] (defScope s_ended) := ⟨rfl, rfl, rfl, by decide +kernel, rfl, by decide +kernel, by decide +kernel⟩
theorem sc_is_safe : FnScope ["batches", "free"] ["batches", "free"] (defScope s_is_safe) := ⟨rfl, rfl, rfl, by decide +kernel, rfl, by decide +kernel, by decide +kernel⟩
theorem sc_locked : FnScope ["batches", "free", "left", "going", "batch"] ["batches", "free"] (defScope s_locked) := ⟨rfl, rfl, rfl, by decide +kernel, rfl, by decide +kernel, by decide +kernel⟩
theorem sc_Orders_init : FnScope ["self", "batches", "free"] ["self", "batches", "free"] (defScope s_Orders_init) := ⟨rfl, rfl, rfl, by decide +kernel, rfl, by decide +kernel, by decide +kernel⟩
theorem sc_Orders_free_then : FnScope ["self", "left", "k", "batch"] ["self", "left"] (defScope s_Orders_free_then) := ⟨rfl, rfl, rfl, by decide +kernel, rfl, by decide +kernel, by decide +kernel⟩
theorem sc_Orders_next_ones : FnScope ["self", "left", "free", "k"] ["self", "left"] (defScope s_Orders_next_ones) := ⟨rfl, rfl, rfl, by decide +kernel, rfl, by decide +kernel, by decide +kernel⟩
theorem sc_Orders_many : FnScope ["self", "left", "k"] ["self", "left"] (defScope s_Orders_many) := ⟨rfl, rfl, rfl, by decide +kernel, rfl, by decide +kernel, by decide +kernel⟩
theorem sc_Orders_all_places : FnScope ["self"] ["self"] (defScope s_Orders_all_places) := ⟨rfl, rfl, rfl, by decide +kernel, rfl, by decide +kernel, by decide +kernel⟩
theorem sc_Orders_next_place : FnScope ["self", "left", "number", "k", "many"] ["self", "left", "number"] (defScope s_Orders_next_place) := ⟨rfl, rfl, rfl, by decide +kernel, rfl, by decide +kernel, by decide +kernel⟩
theorem sc_Orders_order : FnScope ["self", "number", "found", "left", "k"] ["self", "number"] (defScope s_Orders_order) := ⟨rfl, rfl, rfl, by decide +kernel, rfl, by decide +kernel, by decide +kernel⟩
theorem sc_less_one : FnScope ["left", "gone", "k"] ["left", "gone"] (defScope s_less_one) := ⟨rfl, rfl, rfl, by decide +kernel, rfl, by decide +kernel, by decide +kernel⟩
theorem sc_all_choices : FnScope ["things", "found", "thing", "one", "many"] ["things"] (defScope s_all_choices) := ⟨rfl, rfl, rfl, by decide +kernel, rfl, by decide +kernel, by decide +kernel⟩
theorem sc_House_init : FnScope ["self", "totals"] ["self", "totals"] (defScope s_House_init) := ⟨rfl, rfl, rfl, by decide +kernel, rfl, by decide +kernel, by decide +kernel⟩
theorem sc_House_free : FnScope ["self", "held"] ["self"] (defScope s_House_free) := ⟨rfl, rfl, rfl, by decide +kernel, rfl, by decide +kernel, by decide +kernel⟩
theorem sc_House_find : FnScope ["self", "number", "batch"] ["self", "number"] (defScope s_House_find) := ⟨rfl, rfl, rfl, by decide +kernel, rfl, by decide +kernel, by decide +kernel⟩
theorem sc_House_with_batch : FnScope ["self", "changed", "found", "batch"] ["self", "changed"] (defScope s_House_with_batch) := ⟨rfl, rfl, rfl, by decide +kernel, rfl, by decide +kernel, by decide +kernel⟩
theorem sc_House_with_more : FnScope ["self", "batch", "things"] ["self", "batch", "things"] (defScope s_House_with_more) := ⟨rfl, rfl, rfl, by decide +kernel, rfl, by decide +kernel, by decide +kernel⟩
theorem sc_House_stuck_with : FnScope ["self", "batch", "things"] ["self", "batch", "things"] (defScope s_House_stuck_with) := ⟨rfl, rfl, rfl, by decide +kernel, rfl, by decide +kernel, by decide +kernel⟩
theorem sc_House_can_grant : FnScope ["self", "batch", "things"] ["self", "batch", "things"] (defScope s_House_can_grant) := ⟨rfl, rfl, rfl, by decide +kernel, rfl, by decide +kernel, by decide +kernel⟩
theorem sc_House_is_safe : FnScope ["self"] ["self"] (defScope s_House_is_safe) := ⟨rfl, rfl, rfl, by decide +kernel, rfl, by decide +kernel, by decide +kernel⟩
theorem sc_House_ask : FnScope ["self", "batch", "things"] ["self", "batch", "things"] (defScope s_House_ask) := ⟨rfl, rfl, rfl, by decide +kernel, rfl, by decide +kernel, by decide +kernel⟩
theorem sc_House_waiting : FnScope ["self", "some", "batch", "request", "number"] ["self"] (defScope s_House_waiting) := ⟨rfl, rfl, rfl, by decide +kernel, rfl, by decide +kernel, by decide +kernel⟩
theorem sc_House_look_again : FnScope ["self", "found", "number", "batch", "things"] ["self"] (defScope s_House_look_again) := ⟨rfl, rfl, rfl, by decide +kernel, rfl, by decide +kernel, by decide +kernel⟩
theorem sc_House_room : FnScope ["self", "batch", "j", "low", "high", "middle"] ["self", "batch", "j"] (defScope s_House_room) := ⟨rfl, rfl, rfl, by decide +kernel, rfl, by decide +kernel, by decide +kernel⟩
theorem sc_House_copies : FnScope ["self", "j", "many", "kind"] ["self", "j", "many"] (defScope s_House_copies) := ⟨rfl, rfl, rfl, by decide +kernel, rfl, by decide +kernel, by decide +kernel⟩
theorem sc_House_is_safe_with : FnScope ["self", "j", "many"] ["self", "j", "many"] (defScope s_House_is_safe_with) := ⟨rfl, rfl, rfl, by decide +kernel, rfl, by decide +kernel, by decide +kernel⟩
theorem sc_House_lack : FnScope ["self", "j", "low", "high", "middle"] ["self", "j"] (defScope s_House_lack) := ⟨rfl, rfl, rfl, by decide +kernel, rfl, by decide +kernel, by decide +kernel⟩
theorem sc_House_is_safe_without : FnScope ["self", "gone", "out", "batch", "left"] ["self", "gone"] (defScope s_House_is_safe_without) := ⟨rfl, rfl, rfl, by decide +kernel, rfl, by decide +kernel, by decide +kernel⟩
theorem sc_House_all_victims : FnScope ["self", "gone"] ["self"] (defScope s_House_all_victims) := ⟨rfl, rfl, rfl, by decide +kernel, rfl, by decide +kernel, by decide +kernel⟩
theorem sc_House_cheapest : FnScope ["self", "costs", "some", "number", "gone", "cost", "many"] ["self", "costs"] (defScope s_House_cheapest) := ⟨rfl, rfl, rfl, by decide +kernel, rfl, by decide +kernel, by decide +kernel⟩
theorem sc_House_all_orders : FnScope ["self"] ["self"] (defScope s_House_all_orders) := ⟨rfl, rfl, rfl, by decide +kernel, rfl, by decide +kernel, by decide +kernel⟩
theorem sc_House_first_that_cannot : FnScope ["self", "numbers", "free", "number", "batch"] ["self", "numbers"] (defScope s_House_first_that_cannot) := ⟨rfl, rfl, rfl, by decide +kernel, rfl, by decide +kernel, by decide +kernel⟩
theorem sc_House_do_block : FnScope ["self", "numbers", "some", "batch", "free"] ["self", "numbers"] (defScope s_House_do_block) := ⟨rfl, rfl, rfl, by decide +kernel, rfl, by decide +kernel, by decide +kernel⟩
theorem sc_House_locked : FnScope ["self"] ["self"] (defScope s_House_locked) := ⟨rfl, rfl, rfl, by decide +kernel, rfl, by decide +kernel, by decide +kernel⟩
theorem sc_House_add : FnScope ["self", "number", "alternatives"] ["self", "number", "alternatives"] (defScope s_House_add) := ⟨rfl, rfl, rfl, by decide +kernel, rfl, by decide +kernel, by decide +kernel⟩
theorem sc_House_remove : FnScope ["self", "number", "batch"] ["self", "number"] (defScope s_House_remove) := ⟨rfl, rfl, rfl, by decide +kernel, rfl, by decide +kernel, by decide +kernel⟩
theorem sc_Refused_init : FnScope ["self", "number"] ["self", "number"] (defScope s_Refused_init) := ⟨rfl, rfl, rfl, by decide +kernel, rfl, by decide +kernel, by decide +kernel⟩
theorem sc_want : FnScope ["truth", "number"] ["truth", "number"] (defScope s_want) := ⟨rfl, rfl, rfl, by decide +kernel, rfl, by decide +kernel, by decide +kernel⟩
theorem sc_listed : FnScope ["numbers"] ["numbers"] (defScope s_listed) := ⟨rfl, rfl, rfl, by decide +kernel, rfl, by decide +kernel, by decide +kernel⟩
theorem sc_are_numbers : FnScope ["row", "number"] ["row"] (defScope s_are_numbers) := ⟨rfl, rfl, rfl, by decide +kernel, rfl, by decide +kernel, by decide +kernel⟩
theorem sc_Desk_init : FnScope ["self"] ["self"] (defScope s_Desk_init) := ⟨rfl, rfl, rfl, by decide +kernel, rfl, by decide +kernel, by decide +kernel⟩
theorem sc_Desk_want_list : FnScope ["self", "row"] ["self", "row"] (defScope s_Desk_want_list) := ⟨rfl, rfl, rfl, by decide +kernel, rfl, by decide +kernel, by decide +kernel⟩
theorem sc_Desk_batch_of : FnScope ["self", "number", "found"] ["self", "number"] (defScope s_Desk_batch_of) := ⟨rfl, rfl, rfl, by decide +kernel, rfl, by decide +kernel, by decide +kernel⟩
theorem sc_Desk_want_kind : FnScope ["self", "j"] ["self", "j"] (defScope s_Desk_want_kind) := ⟨rfl, rfl, rfl, by decide +kernel, rfl, by decide +kernel, by decide +kernel⟩
theorem sc_Desk_begin : FnScope ["self", "row"] ["self", "row"] (defScope s_Desk_begin) := ⟨rfl, rfl, rfl, by decide +kernel, rfl, by decide +kernel, by decide +kernel⟩
theorem sc_Desk_add_batch : FnScope ["self", "number", "rows", "row"] ["self", "number", "rows"] (defScope s_Desk_add_batch) := ⟨rfl, rfl, rfl, by decide +kernel, rfl, by decide +kernel, by decide +kernel⟩
theorem sc_Desk_ask : FnScope ["self", "batch", "row"] ["self", "batch", "row"] (defScope s_Desk_ask) := ⟨rfl, rfl, rfl, by decide +kernel, rfl, by decide +kernel, by decide +kernel⟩
theorem sc_Desk_give : FnScope ["self", "batch", "row"] ["self", "batch", "row"] (defScope s_Desk_give) := ⟨rfl, rfl, rfl, by decide +kernel, rfl, by decide +kernel, by decide +kernel⟩
theorem sc_Desk_looked_again : FnScope ["self"] ["self"] (defScope s_Desk_looked_again) := ⟨rfl, rfl, rfl, by decide +kernel, rfl, by decide +kernel, by decide +kernel⟩
theorem sc_Desk_back : FnScope ["self", "batch", "row"] ["self", "batch", "row"] (defScope s_Desk_back) := ⟨rfl, rfl, rfl, by decide +kernel, rfl, by decide +kernel, by decide +kernel⟩
theorem sc_Desk_end : FnScope ["self", "batch"] ["self", "batch"] (defScope s_Desk_end) := ⟨rfl, rfl, rfl, by decide +kernel, rfl, by decide +kernel, by decide +kernel⟩
theorem sc_Desk_drop : FnScope ["self", "batch"] ["self", "batch"] (defScope s_Desk_drop) := ⟨rfl, rfl, rfl, by decide +kernel, rfl, by decide +kernel, by decide +kernel⟩
theorem sc_Desk_add_copies : FnScope ["self", "j", "many"] ["self", "j", "many"] (defScope s_Desk_add_copies) := ⟨rfl, rfl, rfl, by decide +kernel, rfl, by decide +kernel, by decide +kernel⟩
theorem sc_Desk_safe : FnScope ["self", "order", "left"] ["self"] (defScope s_Desk_safe) := ⟨rfl, rfl, rfl, by decide +kernel, rfl, by decide +kernel, by decide +kernel⟩
theorem sc_Desk_could : FnScope ["self", "batch", "row", "stuck"] ["self", "batch", "row"] (defScope s_Desk_could) := ⟨rfl, rfl, rfl, by decide +kernel, rfl, by decide +kernel, by decide +kernel⟩
theorem sc_Desk_room : FnScope ["self", "batch", "j"] ["self", "batch", "j"] (defScope s_Desk_room) := ⟨rfl, rfl, rfl, by decide +kernel, rfl, by decide +kernel, by decide +kernel⟩
theorem sc_Desk_lack : FnScope ["self", "j", "found"] ["self", "j"] (defScope s_Desk_lack) := ⟨rfl, rfl, rfl, by decide +kernel, rfl, by decide +kernel, by decide +kernel⟩
theorem sc_Desk_want_batches : FnScope ["self", "row", "there", "number"] ["self", "row"] (defScope s_Desk_want_batches) := ⟨rfl, rfl, rfl, by decide +kernel, rfl, by decide +kernel, by decide +kernel⟩
theorem sc_Desk_cheapest : FnScope ["self", "row", "cost", "gone"] ["self", "row"] (defScope s_Desk_cheapest) := ⟨rfl, rfl, rfl, by decide +kernel, rfl, by decide +kernel, by decide +kernel⟩
theorem sc_Desk_many_orders : FnScope ["self", "orders"] ["self"] (defScope s_Desk_many_orders) := ⟨rfl, rfl, rfl, by decide +kernel, rfl, by decide +kernel, by decide +kernel⟩
theorem sc_Desk_order : FnScope ["self", "k"] ["self", "k"] (defScope s_Desk_order) := ⟨rfl, rfl, rfl, by decide +kernel, rfl, by decide +kernel, by decide +kernel⟩
theorem sc_Desk_check : FnScope ["self", "row", "found"] ["self", "row"] (defScope s_Desk_check) := ⟨rfl, rfl, rfl, by decide +kernel, rfl, by decide +kernel, by decide +kernel⟩
theorem sc_Desk_blocks : FnScope ["self", "row"] ["self", "row"] (defScope s_Desk_blocks) := ⟨rfl, rfl, rfl, by decide +kernel, rfl, by decide +kernel, by decide +kernel⟩
theorem sc_Desk_told_of : FnScope ["self", "batch", "found", "alternative"] ["self", "batch"] (defScope s_Desk_told_of) := ⟨rfl, rfl, rfl, by decide +kernel, rfl, by decide +kernel, by decide +kernel⟩
theorem sc_Desk_all_told : FnScope ["self", "found", "batch"] ["self"] (defScope s_Desk_all_told) := ⟨rfl, rfl, rfl, by decide +kernel, rfl, by decide +kernel, by decide +kernel⟩
theorem sc_Desk_of_batch : FnScope ["self", "word", "batch", "numbers", "rows"] ["self", "word", "batch", "numbers", "rows"] (defScope s_Desk_of_batch) := ⟨rfl, rfl, rfl, by decide +kernel, rfl, by decide +kernel, by decide +kernel⟩
theorem sc_Desk_of_row : FnScope ["self", "word", "numbers", "rows"] ["self", "word", "numbers", "rows"] (defScope s_Desk_of_row) := ⟨rfl, rfl, rfl, by decide +kernel, rfl, by decide +kernel, by decide +kernel⟩
theorem sc_Desk_asked : FnScope ["self", "word", "numbers"] ["self", "word", "numbers"] (defScope s_Desk_asked) := ⟨rfl, rfl, rfl, by decide +kernel, rfl, by decide +kernel, by decide +kernel⟩
theorem sc_Desk_done : FnScope ["self", "word", "numbers", "rows"] ["self", "word", "numbers", "rows"] (defScope s_Desk_done) := ⟨rfl, rfl, rfl, by decide +kernel, rfl, by decide +kernel, by decide +kernel⟩
theorem sc_Desk_answer : FnScope ["self", "word", "numbers", "rows", "found", "e"] ["self", "word", "numbers", "rows"] (defScope s_Desk_answer) := ⟨rfl, rfl, rfl, by decide +kernel, rfl, by decide +kernel, by decide +kernel⟩
theorem sc_rows_at : FnScope ["calls", "at", "found", "end", "k", "begin"] ["calls", "at"] (defScope s_rows_at) := ⟨rfl, rfl, rfl, by decide +kernel, rfl, by decide +kernel, by decide +kernel⟩
theorem sc_answers : FnScope ["calls", "desk", "found", "at", "behind", "numbers", "rows", "end", "answer"] ["calls"] (defScope s_answers) := ⟨rfl, rfl, rfl, by decide +kernel, rfl, by decide +kernel, by decide +kernel⟩
/-- where the classes stand -/
structure Adr where
  B : Addr
  R : Addr
  H : Addr
  D : Addr
  O : Addr
  X : Addr
  W : Addr
  V : Addr
  k_BAD_ROW : Tok
  k_FULL : Tok
  k_MOST_ALTERNATIVES : Tok
  k_MOST_BATCHES : Tok
  k_MOST_KINDS : Tok
  k_MOST_MORE : Tok
  k_MOST_NUMBER : Tok
  k_NONE_SUCH : Tok
  k_NOT_FREE : Tok
  k_NOT_SAFE : Tok
  k_NOT_SO_MUCH : Tok
  k_OUT_OF_RANGE : Tok
  k_THERE_ALREADY : Tok
  k_WAITING : Tok
/-- what the top has left -/
structure Txt (K : PySem.W.Frag) (mg : Str → Option Value) (A : Adr) : Prop where
  f_is_within : GFun K mg "is_within" "is_within" s_is_within ["one", "other"]
  f_more : GFun K mg "more" "more" s_more ["one", "other"]
  f_less : GFun K mg "less" "less" s_less ["one", "other"]
  f_Request_init : IFun K mg A.R "Request" "Request.__init__" s_Request_init ["self", "number", "things"]
  f_Batch_init : IFun K mg A.B "Batch" "Batch.__init__" s_Batch_init ["self", "number", "alternatives", "held", "request"]
  f_Batch_may_hold : MFun K A.B "may_hold" "Batch.may_hold" s_Batch_may_hold ["self", "things"]
  f_Batch_may_get : MFun K A.B "may_get" "Batch.may_get" s_Batch_may_get ["self", "things"]
  f_Batch_can_end : MFun K A.B "can_end" "Batch.can_end" s_Batch_can_end ["self", "free"]
  f_Batch_can_go_on : MFun K A.B "can_go_on" "Batch.can_go_on" s_Batch_can_go_on ["self", "free"]
  f_Batch_holding : MFun K A.B "holding" "Batch.holding" s_Batch_holding ["self", "held"]
  f_Batch_waiting : MFun K A.B "waiting" "Batch.waiting" s_Batch_waiting ["self", "request"]
  f_numbers_of : GFun K mg "numbers_of" "numbers_of" s_numbers_of ["batches"]
  f_given_back : GFun K mg "given_back" "given_back" s_given_back ["free", "batches"]
  f_first_that_ends : GFun K mg "first_that_ends" "first_that_ends" s_first_that_ends ["batches", "free"]
  f_without : GFun K mg "without" "without" s_without ["batches", "gone"]
  f_ended : GFun K mg "ended" "ended" s_ended ["batches", "free"]
  f_is_safe : GFun K mg "is_safe" "is_safe" s_is_safe ["batches", "free"]
  f_locked : GFun K mg "locked" "locked" s_locked ["batches", "free"]
  f_Orders_init : IFun K mg A.O "Orders" "Orders.__init__" s_Orders_init ["self", "batches", "free"]
  f_Orders_free_then : MFun K A.O "free_then" "Orders.free_then" s_Orders_free_then ["self", "left"]
  f_Orders_next_ones : MFun K A.O "next_ones" "Orders.next_ones" s_Orders_next_ones ["self", "left"]
  f_Orders_many : MFun K A.O "many" "Orders.many" s_Orders_many ["self", "left"]
  f_Orders_all_places : MFun K A.O "all_places" "Orders.all_places" s_Orders_all_places ["self"]
  f_Orders_next_place : MFun K A.O "next_place" "Orders.next_place" s_Orders_next_place ["self", "left", "number"]
  f_Orders_order : MFun K A.O "order" "Orders.order" s_Orders_order ["self", "number"]
  f_less_one : GFun K mg "less_one" "less_one" s_less_one ["left", "gone"]
  f_all_choices : GFun K mg "all_choices" "all_choices" s_all_choices ["things"]
  f_House_init : IFun K mg A.H "House" "House.__init__" s_House_init ["self", "totals"]
  f_House_free : MFun K A.H "free" "House.free" s_House_free ["self"]
  f_House_find : MFun K A.H "find" "House.find" s_House_find ["self", "number"]
  f_House_with_batch : MFun K A.H "with_batch" "House.with_batch" s_House_with_batch ["self", "changed"]
  f_House_with_more : MFun K A.H "with_more" "House.with_more" s_House_with_more ["self", "batch", "things"]
  f_House_stuck_with : MFun K A.H "stuck_with" "House.stuck_with" s_House_stuck_with ["self", "batch", "things"]
  f_House_can_grant : MFun K A.H "can_grant" "House.can_grant" s_House_can_grant ["self", "batch", "things"]
  f_House_is_safe : MFun K A.H "is_safe" "House.is_safe" s_House_is_safe ["self"]
  f_House_ask : MFun K A.H "ask" "House.ask" s_House_ask ["self", "batch", "things"]
  f_House_waiting : MFun K A.H "waiting" "House.waiting" s_House_waiting ["self"]
  f_House_look_again : MFun K A.H "look_again" "House.look_again" s_House_look_again ["self"]
  f_House_room : MFun K A.H "room" "House.room" s_House_room ["self", "batch", "j"]
  f_House_copies : MFun K A.H "copies" "House.copies" s_House_copies ["self", "j", "many"]
  f_House_is_safe_with : MFun K A.H "is_safe_with" "House.is_safe_with" s_House_is_safe_with ["self", "j", "many"]
  f_House_lack : MFun K A.H "lack" "House.lack" s_House_lack ["self", "j"]
  f_House_is_safe_without : MFun K A.H "is_safe_without" "House.is_safe_without" s_House_is_safe_without ["self", "gone"]
  f_House_all_victims : MFun K A.H "all_victims" "House.all_victims" s_House_all_victims ["self"]
  f_House_cheapest : MFun K A.H "cheapest" "House.cheapest" s_House_cheapest ["self", "costs"]
  f_House_all_orders : MFun K A.H "all_orders" "House.all_orders" s_House_all_orders ["self"]
  f_House_first_that_cannot : MFun K A.H "first_that_cannot" "House.first_that_cannot" s_House_first_that_cannot ["self", "numbers"]
  f_House_do_block : MFun K A.H "do_block" "House.do_block" s_House_do_block ["self", "numbers"]
  f_House_locked : MFun K A.H "locked" "House.locked" s_House_locked ["self"]
  f_House_add : MFun K A.H "add" "House.add" s_House_add ["self", "number", "alternatives"]
  f_House_remove : MFun K A.H "remove" "House.remove" s_House_remove ["self", "number"]
  f_want : GFun K mg "want" "want" s_want ["truth", "number"]
  f_listed : GFun K mg "listed" "listed" s_listed ["numbers"]
  f_are_numbers : GFun K mg "are_numbers" "are_numbers" s_are_numbers ["row"]
  f_Desk_init : IFun K mg A.D "Desk" "Desk.__init__" s_Desk_init ["self"]
  f_Desk_want_list : MFun K A.D "want_list" "Desk.want_list" s_Desk_want_list ["self", "row"]
  f_Desk_batch_of : MFun K A.D "batch_of" "Desk.batch_of" s_Desk_batch_of ["self", "number"]
  f_Desk_want_kind : MFun K A.D "want_kind" "Desk.want_kind" s_Desk_want_kind ["self", "j"]
  f_Desk_begin : MFun K A.D "begin" "Desk.begin" s_Desk_begin ["self", "row"]
  f_Desk_add_batch : MFun K A.D "add_batch" "Desk.add_batch" s_Desk_add_batch ["self", "number", "rows"]
  f_Desk_ask : MFun K A.D "ask" "Desk.ask" s_Desk_ask ["self", "batch", "row"]
  f_Desk_give : MFun K A.D "give" "Desk.give" s_Desk_give ["self", "batch", "row"]
  f_Desk_looked_again : MFun K A.D "looked_again" "Desk.looked_again" s_Desk_looked_again ["self"]
  f_Desk_back : MFun K A.D "back" "Desk.back" s_Desk_back ["self", "batch", "row"]
  f_Desk_end : MFun K A.D "end" "Desk.end" s_Desk_end ["self", "batch"]
  f_Desk_drop : MFun K A.D "drop" "Desk.drop" s_Desk_drop ["self", "batch"]
  f_Desk_add_copies : MFun K A.D "add_copies" "Desk.add_copies" s_Desk_add_copies ["self", "j", "many"]
  f_Desk_safe : MFun K A.D "safe" "Desk.safe" s_Desk_safe ["self"]
  f_Desk_could : MFun K A.D "could" "Desk.could" s_Desk_could ["self", "batch", "row"]
  f_Desk_room : MFun K A.D "room" "Desk.room" s_Desk_room ["self", "batch", "j"]
  f_Desk_lack : MFun K A.D "lack" "Desk.lack" s_Desk_lack ["self", "j"]
  f_Desk_want_batches : MFun K A.D "want_batches" "Desk.want_batches" s_Desk_want_batches ["self", "row"]
  f_Desk_cheapest : MFun K A.D "cheapest" "Desk.cheapest" s_Desk_cheapest ["self", "row"]
  f_Desk_many_orders : MFun K A.D "many_orders" "Desk.many_orders" s_Desk_many_orders ["self"]
  f_Desk_order : MFun K A.D "order" "Desk.order" s_Desk_order ["self", "k"]
  f_Desk_check : MFun K A.D "check" "Desk.check" s_Desk_check ["self", "row"]
  f_Desk_blocks : MFun K A.D "blocks" "Desk.blocks" s_Desk_blocks ["self", "row"]
  f_Desk_told_of : MFun K A.D "told_of" "Desk.told_of" s_Desk_told_of ["self", "batch"]
  f_Desk_all_told : MFun K A.D "all_told" "Desk.all_told" s_Desk_all_told ["self"]
  f_Desk_of_batch : MFun K A.D "of_batch" "Desk.of_batch" s_Desk_of_batch ["self", "word", "batch", "numbers", "rows"]
  f_Desk_of_row : MFun K A.D "of_row" "Desk.of_row" s_Desk_of_row ["self", "word", "numbers", "rows"]
  f_Desk_asked : MFun K A.D "asked" "Desk.asked" s_Desk_asked ["self", "word", "numbers"]
  f_Desk_done : MFun K A.D "done" "Desk.done" s_Desk_done ["self", "word", "numbers", "rows"]
  f_Desk_answer : MFun K A.D "answer" "Desk.answer" s_Desk_answer ["self", "word", "numbers", "rows"]
  f_rows_at : GFun K mg "rows_at" "rows_at" s_rows_at ["calls", "at"]
  f_answers : GFun K mg "answers" "answers" s_answers ["calls"]
  f_is_safe_ends : GFun K mg "is_safe_ends" "is_safe" s_is_safe ["batches", "free"]
  f_locked_ends : GFun K mg "locked_ends" "locked" s_locked ["batches", "free"]
  c_B : Cls K A.B
  n_B_number : NoAttr K A.B "number"
  n_B_alternatives : NoAttr K A.B "alternatives"
  n_B_held : NoAttr K A.B "held"
  n_B_request : NoAttr K A.B "request"
  c_R : Cls K A.R
  n_R_number : NoAttr K A.R "number"
  n_R_things : NoAttr K A.R "things"
  c_H : Cls K A.H
  n_H_totals : NoAttr K A.H "totals"
  n_H_batches : NoAttr K A.H "batches"
  n_H_many_waited : NoAttr K A.H "many_waited"
  c_D : Cls K A.D
  n_D_house : NoAttr K A.D "house"
  c_O : Cls K A.O
  n_O_batches : NoAttr K A.O "batches"
  n_O_free_first : NoAttr K A.O "free_first"
  n_O_known : NoAttr K A.O "known"
  b_all : mg "all" = none
  b_any : mg "any" = none
  b_dict : mg "dict" = none
  b_enumerate : mg "enumerate" = none
  b_int : mg "int" = none
  b_len : mg "len" = none
  b_list : mg "list" = none
  b_min : mg "min" = none
  b_range : mg "range" = none
  b_reversed : mg "reversed" = none
  b_set : mg "set" = none
  b_sorted : mg "sorted" = none
  b_sum : mg "sum" = none
  b_tuple : mg "tuple" = none
  b_zip : mg "zip" = none
  c_MOST_MORE : mg "MOST_MORE" = some (.int (10000000000) A.k_MOST_MORE)
  c_OUT_OF_RANGE : mg "OUT_OF_RANGE" = some (.int (-1) A.k_OUT_OF_RANGE)
  c_BAD_ROW : mg "BAD_ROW" = some (.int (-2) A.k_BAD_ROW)
  c_THERE_ALREADY : mg "THERE_ALREADY" = some (.int (-3) A.k_THERE_ALREADY)
  c_NOT_SO_MUCH : mg "NOT_SO_MUCH" = some (.int (-4) A.k_NOT_SO_MUCH)
  c_NOT_FREE : mg "NOT_FREE" = some (.int (-5) A.k_NOT_FREE)
  c_FULL : mg "FULL" = some (.int (-6) A.k_FULL)
  c_WAITING : mg "WAITING" = some (.int (-7) A.k_WAITING)
  c_NOT_SAFE : mg "NOT_SAFE" = some (.int (-8) A.k_NOT_SAFE)
  c_NONE_SUCH : mg "NONE_SUCH" = some (.int (-10) A.k_NONE_SUCH)
  c_MOST_NUMBER : mg "MOST_NUMBER" = some (.int (1000000000) A.k_MOST_NUMBER)
  c_MOST_KINDS : mg "MOST_KINDS" = some (.int (6) A.k_MOST_KINDS)
  c_MOST_ALTERNATIVES : mg "MOST_ALTERNATIVES" = some (.int (4) A.k_MOST_ALTERNATIVES)
  c_MOST_BATCHES : mg "MOST_BATCHES" = some (.int (10) A.k_MOST_BATCHES)

theorem AllR.one {P1 : Rp} {vs : List V} {F : Hp} (h : AllR [P1] vs F) : ∃ a, vs = [a] ∧ P1 a F := by
  cases h with
  | cons p h => cases h; exact ⟨_, rfl, p⟩
theorem AllR.two {P1 P2 : Rp} {vs : List V} {F : Hp} (h : AllR [P1, P2] vs F) : ∃ a b, vs = [a, b] ∧ P1 a F ∧ P2 b F := by
  cases h with
  | cons p h =>
    obtain ⟨b, rfl, q⟩ := h.one
    exact ⟨_, b, rfl, p, q⟩
theorem AllR.three {P1 P2 P3 : Rp} {vs : List V} {F : Hp} (h : AllR [P1, P2, P3] vs F) : ∃ a b c, vs = [a, b, c] ∧ P1 a F ∧ P2 b F ∧ P3 c F := by
  cases h with
  | cons p h =>
    obtain ⟨b, c, rfl, q, r⟩ := h.two
    exact ⟨_, b, c, rfl, p, q, r⟩
theorem AllR.four {P1 P2 P3 P4 : Rp} {vs : List V} {F : Hp} (h : AllR [P1, P2, P3, P4] vs F) : ∃ a b c d, vs = [a, b, c, d] ∧ P1 a F ∧ P2 b F ∧ P3 c F ∧ P4 d F := by
  cases h with
  | cons p h =>
    obtain ⟨b, c, d, rfl, q, r, t⟩ := h.three
    exact ⟨_, b, c, d, rfl, p, q, r, t⟩
end G
end

section
set_option Elab.async false
set_option linter.all false
set_option maxRecDepth 100000
set_option maxHeartbeats 4000000
namespace G
open PySem PySem.Spec PyProof.Rows L2
abbrev Vec := Vbwbad.Vec
section
variable {P : Program} {w : World} {K : PySem.W.Frag} {mg : Str → Option Value} {base : Heap} {A : Adr}
abbrev zV (v : Vec) : Rp := zL zN v
theorem plus_zip : ∀ a b : Vec, (a.zip b).map (fun p => p.1 + p.2) = Vbwbad.plus a b
  | [], b => by cases b <;> rfl
  | x :: a, [] => rfl
  | x :: a, y :: b => by
    show (x + y) :: _ = (x + y) :: _
    congr 1
    exact plus_zip a b
theorem minus_zip : ∀ a b : Vec, (a.zip b).map (fun p => p.1 - p.2) = Vbwbad.minus a b
  | [], b => by cases b <;> rfl
  | x :: a, [] => rfl
  | x :: a, y :: b => by
    show (x - y) :: _ = (x - y) :: _
    congr 1
    exact minus_zip a b
theorem zip_len {a b : Vec} (h : a.length ≤ LB) : (a.zip b).length ≤ LB := by
  rw [List.length_zip]
  exact Nat.le_trans (Nat.min_le_left _ _) h
def spTwo (res : Vec → Vec → Rp) (pre : Vec → Vec → Prop) : Sp := FSp (fun x : Vec × Vec => [zV x.1, zV x.2]) (fun x _ _ => pre x.1 x.2) (fun x => res x.1 x.2)
theorem zL_le {α : Type} {f : α → Rp} {l : List α} {v : V} {F' : Hp} (h : zL f l v F') : l.length ≤ LB := by
  obtain ⟨_, _, _, _, _, z⟩ := h
  exact z
theorem s_retk {te : TE} {σ : L2.St} {F H : Hp} {Pr : Rp} {D : Ends} (s : Same F H) (k : ∀ v H2 F', Fut F F' H H2 → Pr v F' → D.rt v H2) (h : Ev te σ F H Pr) : tRet te D σ H := s_ret s h fun v H1 F1 fu p => k v H1 F1 fu p
def sp_more (K : PySem.W.Frag) (A : Adr) : Sp := FSp (fun x : Vec × Vec => [zV x.1, zV x.2]) noPre (fun x => zV (Vbwbad.plus x.1 x.2))
def sp_less (K : PySem.W.Frag) (A : Adr) : Sp := FSp (fun x : Vec × Vec => [zV x.1, zV x.2]) (fun x _ _ => Vbwbad.within x.2 x.1 = true) (fun x => zV (Vbwbad.minus x.1 x.2))
def sp_is_within (K : PySem.W.Frag) (A : Adr) : Sp := FSp (fun x : Vec × Vec => [zV x.1, zV x.2]) noPre (fun x => zB (Vbwbad.within x.1 x.2))
theorem ok_more (T : Txt K mg A) : CF P w K mg base CX0 1 "more" ["one", "other"] (sp_more K A) :=
  T.f_more.cf fun f fd Fn => body_ok Fn sc_more (fun _ => rfl) fun cdv A outer s H E hr => by
    refine ⟨_, (pss_one (ps_ret (pe_lc (own := [("number", 2), ("further", 3)]) (g := (gTup K 2 (gCons (gName 2) (gCons (gName 3) gNil)))) (tt := tYes) (te := (tOp (rI0 fun i j => .int (i + j)) (tVar 2) (tVar 3))) rfl sc_more.nd (pi_zip rfl T.b_zip (pa_cons (pv 0) (pa_cons (pv 1) pa_nil))) (blkOk_by (N := ["one", "other", "number", "further"]) (sc := defScope s_more) (own := [("number", 2), ("further", 3)]) (by decide +kernel)) (fun _ _ _ _ _ => (pg_tup rfl (pgs_cons (pg_name (i := 2) sc_more.nd rfl (Or.inl rfl)) (pgs_cons (pg_name (i := 3) sc_more.nd rfl (Or.inl rfl)) pgs_nil)))) (fun _ _ _ _ _ => pts_nil) (fun _ _ _ _ _ => (pe_op op_add (pv 2) (pv 3)))))), fun x F vs Q sF av _ k => ?_⟩
    obtain ⟨u, v, rfl, p1, p2⟩ := av.two
    have hl := zip_len (b := x.2) (zL_le p1)
    refine s_retk sF k ?_
    show Ev _ _ F H (zV (Vbwbad.plus x.1 x.2))
    rw [← plus_zip]
    exact ev_lcA _ hl (ei_zip (ea_cons (ev_var rfl p1) (ea_cons (ev_var rfl p2) ea_nil))) fun a ha y F1 R1 s1 s2 s3 g => by
      obtain ⟨v, w, q1, q2, b⟩ := b_two s3 g
      exact ⟨_, b, rfl, Ev.int (Int.natCast_add _ _).symm (ev_add (ev_var rfl q1) (ev_var rfl q2))⟩
theorem within_mem : ∀ {a b : Vec}, Vbwbad.within b a = true → ∀ {p : Nat × Nat}, p ∈ a.zip b → p.2 ≤ p.1
  | [], b, _, p, hp => by cases b <;> cases hp
  | x :: a, [], _, p, hp => by cases hp
  | x :: a, y :: b, h, p, hp => by
    rw [within_cons, Bool.and_eq_true] at h
    rcases List.mem_cons.mp hp with rfl | hp
    · simpa using h.1
    · exact within_mem h.2 hp
theorem ok_less (T : Txt K mg A) : CF P w K mg base CX0 1 "less" ["one", "other"] (sp_less K A) :=
  T.f_less.cf fun f fd Fn => body_ok Fn sc_less (fun _ => rfl) fun cdv A outer s H E hr => by
    refine ⟨_, (pss_one (ps_ret (pe_lc (own := [("number", 2), ("further", 3)]) (g := (gTup K 2 (gCons (gName 2) (gCons (gName 3) gNil)))) (tt := tYes) (te := (tOp (rI0 fun i j => .int (i - j)) (tVar 2) (tVar 3))) rfl sc_less.nd (pi_zip rfl T.b_zip (pa_cons (pv 0) (pa_cons (pv 1) pa_nil))) (blkOk_by (N := ["one", "other", "number", "further"]) (sc := defScope s_less) (own := [("number", 2), ("further", 3)]) (by decide +kernel)) (fun _ _ _ _ _ => (pg_tup rfl (pgs_cons (pg_name (i := 2) sc_less.nd rfl (Or.inl rfl)) (pgs_cons (pg_name (i := 3) sc_less.nd rfl (Or.inl rfl)) pgs_nil)))) (fun _ _ _ _ _ => pts_nil) (fun _ _ _ _ _ => (pe_op op_sub (pv 2) (pv 3)))))), fun x F vs Q sF av pr k => ?_⟩
    obtain ⟨u, v, rfl, p1, p2⟩ := av.two
    have hl := zip_len (b := x.2) (zL_le p1)
    refine s_retk sF k ?_
    show Ev _ _ F H (zV (Vbwbad.minus x.1 x.2))
    rw [← minus_zip]
    exact ev_lcA _ hl (ei_zip (ea_cons (ev_var rfl p1) (ea_cons (ev_var rfl p2) ea_nil))) fun a ha y F1 R1 s1 s2 s3 g => by
      obtain ⟨v, w, q1, q2, b⟩ := b_two s3 g
      exact ⟨_, b, rfl, Ev.int (Int.natCast_sub (within_mem pr ha)).symm (ev_sub (ev_var rfl q1) (ev_var rfl q2))⟩
theorem ok_is_within (T : Txt K mg A) : CF P w K mg base CX0 1 "is_within" ["one", "other"] (sp_is_within K A) :=
  T.f_is_within.cf fun f fd Fn => body_ok Fn sc_is_within (fun _ => rfl) fun cdv B0 outer s H E hr => by
    refine ⟨_, (pss_one (ps_ret (pe_callB (cr_all rfl) rfl T.b_all (by decide +kernel) (pa_cons (pe_lc (own := [("number", 2), ("most", 3)]) (g := (gTup K 2 (gCons (gName 2) (gCons (gName 3) gNil)))) (tt := tYes) (te := (tOp (rI0 fun i j => .bl (decide (i ≤ j))) (tVar 2) (tVar 3))) rfl sc_is_within.nd (pi_zip rfl T.b_zip (pa_cons (pv 0) (pa_cons (pv 1) pa_nil))) (blkOk_by (N := ["one", "other", "number", "most"]) (sc := defScope s_is_within) (own := [("number", 2), ("most", 3)]) (by decide +kernel)) (fun _ _ _ _ _ => (pg_tup rfl (pgs_cons (pg_name (i := 2) sc_is_within.nd rfl (Or.inl rfl)) (pgs_cons (pg_name (i := 3) sc_is_within.nd rfl (Or.inl rfl)) pgs_nil)))) (fun _ _ _ _ _ => pts_nil) (fun _ _ _ _ _ => (pe_cmpR op_le (pv 2) (pv 3) (nomark _)))) pa_nil)))), fun x F vs Q sF av _ k => ?_⟩
    obtain ⟨u, v, rfl, p1, p2⟩ := av.two
    have hl := zip_len (b := x.2) (zL_le p1)
    refine s_retk sF k ?_
    have e : Vbwbad.within x.1 x.2 = ((x.1.zip x.2).map fun p => decide (p.1 ≤ p.2)).all id := by
      rw [List.all_map]
      rfl
    show Ev _ _ F H (zB (Vbwbad.within x.1 x.2))
    rw [e]
    refine ev_all (ea_cons (ev_lcA _ hl (ei_zip (ea_cons (ev_var rfl p1) (ea_cons (ev_var rfl p2) ea_nil))) fun a ha y F1 R1 s1 s2 s3 g => ?_) ea_nil)
    obtain ⟨v, w, q1, q2, b⟩ := b_two s3 g
    exact ⟨_, b, rfl, Ev.bl (decide_eq_decide.mpr Int.ofNat_le) (ev_le (ev_var rfl q1) (ev_var rfl q2))⟩
/-! ### reading and building objects -/
theorem lk_here {k : Str} {v : V} {r : List (Str × V)} : List.lookup k ((k, v) :: r) = some v := by
  have e : (k == k) = true := beq_self_eq_true k
  simp only [List.lookup, e]
theorem lk_past {k g : Str} {v : V} {r : List (Str × V)} (h : (k == g) = false) : List.lookup k ((g, v) :: r) = List.lookup k r := by
  simp only [List.lookup, h]
theorem put_here {f : Str} {v x : V} {r : List (Str × V)} : putF f v ((f, x) :: r) = (f, v) :: r := if_pos rfl
theorem put_past {f g : Str} {v x : V} {r : List (Str × V)} (h : ¬ g = f) : putF f v ((g, x) :: r) = (g, x) :: putF f v r := if_neg h
/-- a __init__ that keeps what is handed in -/
def ISp (C : Addr) (n : Nat) (fs : List V → List (Str × V)) : Sp := fun vs H Q _ => ∃ p dx ws, vs = .ref p :: ws ∧ ws.length = n ∧ H p = some (.ins C dx []) ∧ ∀ H' : Hp, H' p = some (.ins C dx (fs ws)) → (∀ b o, H b = some o → b ≠ p → H' b = some o) → Q .non H'
theorem ev_makeI {C : Addr} {n : Nat} {fs : List V → List (Str × V)} {σ : L2.St} {F R : Hp} {tr : TA} {Ps : List Rp} {Pr : Rp} {E : XK} (hn : Ps.length = n) (hp : ∀ vs F' p dx, AllR Ps vs F' → F' p = some (.ins C dx (fs vs)) → Pr (.ref p) F') [MSs Ps] (ha : EvA tr σ F R Ps) :
    Ev (tMake C (ISp C n fs) [] E tr) σ F R Pr := fun s H1 h1 Q k => ha s H1 h1 _ fun vs H2 F1 u1 av => fun x dx nx nd ne => by
  refine ⟨x, dx, vs, by rw [List.append_nil], by rw [av.len, hn], upd_same, fun H' hx hk => ⟨rfl, ?_⟩⟩
  have keep : Same H2 H' := fun a o e => hk a o (by rw [upd_ne (ne_of_none e nx), upd_ne (ne_of_none e nd)]; exact e) (ne_of_none e nx)
  have fx : F1 x = none := same_none u1.fh nx
  have fu : Fut F1 (upd F1 x (.ins C dx (fs vs))) H2 H' := by
    refine ⟨same_upd (Same.refl _) fx, fun a o e => ?_, keep, fun a ha hf => ?_⟩
    · by_cases h : a = x
      · subst h
        rw [upd_same] at e
        cases e
        exact hx
      · rw [upd_ne h] at e
        exact keep a o (u1.fh a o e)
    · by_cases h : a = x
      · subst h
        exact absurd nx ha
      · rw [upd_ne h]
        exact hf
  exact k _ H' _ (u1.trans fu) (hp vs _ x dx (MSs.mono fu.ff av) upd_same)

/-! ### batches and requests -/
def rF (n u : V) : List (Str × V) := [("number", n), ("things", u)]
def bF (n u1 u2 u3 : V) : List (Str × V) := [("number", n), ("alternatives", u1), ("held", u2), ("request", u3)]
def zReq (A : Adr) (x : Nat × Vec) : Rp := fun v F => ∃ a dx u, v = .ref a ∧ F a = some (.ins A.R dx (rF (.int (x.1 : Nat)) u)) ∧ zV x.2 u F
def zWant (A : Adr) (o : Option (Nat × Vec)) : Rp := match o with
  | none => zNo
  | some x => zReq A x
def zBat (A : Adr) (b : B) : Rp := fun v F => ∃ a dx u1 u2 u3, v = .ref a ∧ F a = some (.ins A.B dx (bF (.int (b.id : Nat)) u1 u2 u3)) ∧ zL zV b.alts u1 F ∧ zV b.holds u2 F ∧ zWant A b.want u3 F
instance {x : Nat × Vec} : MS (zReq A x) := ⟨fun s ⟨a, dx, u, e, h, p⟩ => ⟨a, dx, u, e, s _ _ h, up s p⟩⟩
instance {o : Option (Nat × Vec)} : MS (zWant A o) := ⟨fun {F F' v} s p => by
  cases o with
  | none => exact p
  | some x => exact up (P := zReq A x) s p⟩
instance {b : B} : MS (zBat A b) := ⟨fun s ⟨a, dx, u1, u2, u3, e, h, p1, p2, p3⟩ => ⟨a, dx, u1, u2, u3, e, s _ _ h, up s p1, up s p2, up s p3⟩⟩
theorem bF_number {n u1 u2 u3 : V} : (bF n u1 u2 u3).lookup ("number" : Str) = some n := lk_here
theorem bF_alts {n u1 u2 u3 : V} : (bF n u1 u2 u3).lookup ("alternatives" : Str) = some u1 := (lk_past (by decide +kernel)).trans lk_here
theorem bF_held {n u1 u2 u3 : V} : (bF n u1 u2 u3).lookup ("held" : Str) = some u2 := (lk_past (by decide +kernel)).trans ((lk_past (by decide +kernel)).trans lk_here)
theorem bF_request {n u1 u2 u3 : V} : (bF n u1 u2 u3).lookup ("request" : Str) = some u3 := (lk_past (by decide +kernel)).trans ((lk_past (by decide +kernel)).trans ((lk_past (by decide +kernel)).trans lk_here))
def notIn (m : Str) (l : List Str) : Bool := l.all fun k => !(m == k)
theorem lk_none {m : Str} : ∀ {fs : List (Str × V)}, notIn m (fs.map (·.1)) = true → fs.lookup m = none
  | [], _ => rfl
  | (k, v) :: r, h => by
    unfold notIn at h
    rw [List.map_cons, List.all_cons, Bool.and_eq_true] at h
    rw [lk_past (by simpa using h.1)]
    exact lk_none h.2
theorem hf_number {b : B} : HasF (zBat A b) A.B "number" (zN b.id) := fun v F' ⟨a, dx, u1, u2, u3, e, h, p1, p2, p3⟩ => ⟨a, dx, _, _, e, h, bF_number, rfl⟩
theorem hf_alts {b : B} : HasF (zBat A b) A.B "alternatives" (zL zV b.alts) := fun v F' ⟨a, dx, u1, u2, u3, e, h, p1, p2, p3⟩ => ⟨a, dx, _, _, e, h, bF_alts, p1⟩
theorem hf_held {b : B} : HasF (zBat A b) A.B "held" (zV b.holds) := fun v F' ⟨a, dx, u1, u2, u3, e, h, p1, p2, p3⟩ => ⟨a, dx, _, _, e, h, bF_held, p2⟩
theorem hf_request {b : B} : HasF (zBat A b) A.B "request" (zWant A b.want) := fun v F' ⟨a, dx, u1, u2, u3, e, h, p1, p2, p3⟩ => ⟨a, dx, _, _, e, h, bF_request, p3⟩
theorem hf_rnumber {x : Nat × Vec} : HasF (zReq A x) A.R "number" (zN x.1) := fun v F' ⟨a, dx, u, e, h, p⟩ => ⟨a, dx, _, _, e, h, lk_here, rfl⟩
theorem hf_things {x : Nat × Vec} : HasF (zReq A x) A.R "things" (zV x.2) := fun v F' ⟨a, dx, u, e, h, p⟩ => ⟨a, dx, _, _, e, h, (lk_past (by decide +kernel)).trans lk_here, p⟩
theorem ins_bat {b : B} {m : Str} {F R : Hp} (h : notIn m ["number", "alternatives", "held", "request"] = true) : InsIn (zBat A b) A.B m F R := fun v F' H' _ _ s ⟨a, dx, u1, u2, u3, e, q, _⟩ => ⟨a, dx, _, e, s _ _ q, lk_none h⟩

def sp_Request_init (K : PySem.W.Frag) (A : Adr) : Sp := ISp A.R 2 fun vs => rF (vs.getD 0 .non) (vs.getD 1 .non)
theorem ok_Request_init (T : Txt K mg A) : IF P w K mg base CX0 1 A.R "Request" ["self", "number", "things"] (sp_Request_init K A) :=
  T.f_Request_init.if fun f fd Fn => by
    refine Fn.ok sc_Request_init (fun vs H Q E h => ?_) fun cdv B0 outer s H vs Q E hr h => ?_
    · obtain ⟨p, dx, ws, rfl, hl, _⟩ := h
      show ws.length + 1 = 3
      omega
    · obtain ⟨p, dx, ws, rfl, hl, hp, k⟩ := h
      match ws, hl with
      | [n, u], _ =>
        refine ⟨_, (pss_cons (ps_fld (pv 0) (pv 1) rfl)
      (pss_one (ps_fld (pv 0) (pv 2) rfl))), ?_⟩
        refine ⟨_, rfl, _, rfl, p, A.R, dx, [], rfl, hp, T.c_R, T.n_R_number, (by show 0 < 1000; decide), ?_⟩
        refine ⟨_, rfl, _, rfl, p, A.R, dx, _, rfl, upd_same, T.c_R, T.n_R_things, (by show 1 < 1000; decide), ?_⟩
        refine k _ (Eq.trans upd_same ?_) fun b o e hb => ?_
        · have : putF "things" u (putF "number" n []) = rF n u := (put_past (by decide +kernel)).trans rfl
          rw [this]
          rfl
        · rw [upd_ne hb, upd_ne hb]
          exact e
def sp_Batch_init (K : PySem.W.Frag) (A : Adr) : Sp := ISp A.B 4 fun vs => bF (vs.getD 0 .non) (vs.getD 1 .non) (vs.getD 2 .non) (vs.getD 3 .non)
theorem ok_Batch_init (T : Txt K mg A) : IF P w K mg base CX0 1 A.B "Batch" ["self", "number", "alternatives", "held", "request"] (sp_Batch_init K A) :=
  T.f_Batch_init.if fun f fd Fn => by
    refine Fn.ok sc_Batch_init (fun vs H Q E h => ?_) fun cdv B0 outer s H vs Q E hr h => ?_
    · obtain ⟨p, dx, ws, rfl, hl, _⟩ := h
      show ws.length + 1 = 5
      omega
    · obtain ⟨p, dx, ws, rfl, hl, hp, k⟩ := h
      match ws, hl with
      | [n, u1, u2, u3], _ =>
        refine ⟨_, (pss_cons (ps_fld (pv 0) (pv 1) rfl)
      (pss_cons (ps_fld (pv 0) (pv 2) rfl)
      (pss_cons (ps_fld (pv 0) (pv 3) rfl)
      (pss_one (ps_fld (pv 0) (pv 4) rfl))))), ?_⟩
        refine ⟨_, rfl, _, rfl, p, A.B, dx, [], rfl, hp, T.c_B, T.n_B_number, (by show 0 < 1000; decide), ?_⟩
        refine ⟨_, rfl, _, rfl, p, A.B, dx, _, rfl, upd_same, T.c_B, T.n_B_alternatives, (by show 1 < 1000; decide), ?_⟩
        have e2 : putF "alternatives" u1 (putF "number" n []) = ([("number", n), ("alternatives", u1)] : List (Str × V)) := (put_past (by decide +kernel)).trans rfl
        rw [e2]
        refine ⟨_, rfl, _, rfl, p, A.B, dx, _, rfl, upd_same, T.c_B, T.n_B_held, (by show 2 < 1000; decide), ?_⟩
        have e3 : putF "held" u2 ([("number", n), ("alternatives", u1)] : List (Str × V)) = ([("number", n), ("alternatives", u1), ("held", u2)] : List (Str × V)) := (put_past (by decide +kernel)).trans (congrArg _ ((put_past (by decide +kernel)).trans rfl))
        rw [e3]
        refine ⟨_, rfl, _, rfl, p, A.B, dx, _, rfl, upd_same, T.c_B, T.n_B_request, (by show 3 < 1000; decide), ?_⟩
        have e4 : putF "request" u3 ([("number", n), ("alternatives", u1), ("held", u2)] : List (Str × V)) = bF n u1 u2 u3 := (put_past (by decide +kernel)).trans (congrArg _ ((put_past (by decide +kernel)).trans (congrArg _ ((put_past (by decide +kernel)).trans rfl))))
        rw [e4]
        refine k _ upd_same fun b o e hb => ?_
        rw [upd_ne hb, upd_ne hb, upd_ne hb, upd_ne hb]
        exact e
theorem ev_batch {σ : L2.St} {F R : Hp} {tr : TA} {E : XK} (b : B) (ha : EvA tr σ F R [zN b.id, zL zV b.alts, zV b.holds, zWant A b.want]) : Ev (tMake A.B (sp_Batch_init K A) [] E tr) σ F R (zBat A b) :=
  ev_makeI rfl (fun vs F' p dx av hp => by
    obtain ⟨n, u1, u2, u3, rfl, q0, q1, q2, q3⟩ := av.four
    have q0' : n = .int (b.id : Nat) := q0
    subst q0'
    exact ⟨p, dx, u1, u2, u3, rfl, hp, q1, q2, q3⟩) ha
theorem ev_request {σ : L2.St} {F R : Hp} {tr : TA} {E : XK} (x : Nat × Vec) (ha : EvA tr σ F R [zN x.1, zV x.2]) : Ev (tMake A.R (sp_Request_init K A) [] E tr) σ F R (zReq A x) :=
  ev_makeI rfl (fun vs F' p dx av hp => by
    obtain ⟨n, u, rfl, q0, q1⟩ := av.two
    have q0' : n = .int (x.1 : Nat) := q0
    subst q0'
    exact ⟨p, dx, u, rfl, hp, q1⟩) ha
end
end G
end

section
set_option Elab.async false
set_option linter.all false
set_option maxRecDepth 100000
set_option maxHeartbeats 4000000
namespace G
open PySem PySem.Spec PyProof.Rows L2
section
variable {P : Program} {w : World} {K : PySem.W.Frag} {mg : Str → Option Value} {base : Heap} {A : Adr}
abbrev zBs (A : Adr) (l : List B) : Rp := zL (zBat A) l
def zOB (A : Adr) (o : Option B) : Rp := match o with
  | none => zNo
  | some b => zBat A b
instance {o : Option B} : MS (zOB A o) := ⟨fun {F F' v} s p => by
  cases o with
  | none => exact p
  | some x => exact up (P := zBat A x) s p⟩
theorem any_id {α : Type} (l : List α) (f : α → Bool) : (l.map f).any id = l.any f := by
  rw [List.any_map]
  rfl
theorem all_id {α : Type} (l : List α) (f : α → Bool) : (l.map f).all id = l.all f := by
  rw [List.all_map]
  rfl
theorem b_g {i : Nat} {x : V} {σ : L2.St} {H : Hp} {k : L2.St → Hp → Prop} (h : k (σ.set i (some x)) H) : gName i x σ H k := h
theorem Fut.put {F0 F H0 H : Hp} {l : Addr} {o : HO} (u : Fut F0 F H0 H) (hf : F l = none) (h0 : H0 l = none) : Fut F0 F H0 (upd H l o) :=
  ⟨u.ff, fun a w e => by
    rw [upd_ne (ne_of_none e hf)]
    exact u.fh a w e, fun a w e => by
    rw [upd_ne (ne_of_none e h0)]
    exact u.hh a w e, u.nw⟩

def sp_Batch_may_hold (K : PySem.W.Frag) (A : Adr) : Sp := FSp (fun x : B × Vec => [zBat A x.1, zV x.2]) noPre (fun x => zB (x.1.alts.any fun a => Vbwbad.within x.2 a))
theorem ok_Batch_may_hold (T : Txt K mg A) : MF P w K mg base CX0 2 A.B "may_hold" ["self", "things"] (sp_Batch_may_hold K A) :=
  T.f_Batch_may_hold.mf fun f fd Fn => body_ok Fn sc_Batch_may_hold (fun _ => rfl) fun cdv B0 outer s H E hr => by
    refine ⟨_, (pss_one (ps_ret (pe_callB (cr_any rfl) rfl T.b_any (by decide +kernel) (pa_cons (pe_lc (own := [("alternative", 2)]) (g := (gName 2)) (tt := tYes) (te := (tCall (sp_is_within K A) [] E0 (tCons (tVar 1) (tCons (tVar 2) tNil)))) rfl sc_Batch_may_hold.nd (pi_list (pe_fld (pv 0) rfl)) (blkOk_by (N := ["self", "things", "alternative"]) (sc := defScope s_Batch_may_hold) (own := [("alternative", 2)]) (by decide +kernel)) (fun _ _ _ _ _ => (pg_name (i := 2) sc_Batch_may_hold.nd rfl (Or.inl rfl))) (fun _ _ _ _ _ => pts_nil) (fun _ _ _ _ _ => (pe_callF (ok_is_within T) (hr.mono (by decide)) pass0 (pa_cons (pv 1) (pa_cons (pv 2) pa_nil))))) pa_nil)))), fun x F vs Q sF av _ k => ?_⟩
    obtain ⟨u, v, rfl, p1, p2⟩ := av.two
    refine s_retk sF k ?_
    show Ev _ _ F H (zB (x.1.alts.any fun a => Vbwbad.within x.2 a))
    rw [← any_id]
    have ea : Ev (tFld K (tVar 0) "alternatives") [some u, some v, none] F H (zL zV x.1.alts) := ev_fld hf_alts T.c_B T.n_B_alternatives (ev_var rfl p1)
    have hl : x.1.alts.length ≤ LB := by
      obtain ⟨_, _, _, _, _, _, _, q, _⟩ := p1
      exact zL_le q
    exact ev_any (ea_cons (ev_lcA _ hl (ei_list ea) fun a ha y F1 R1 s1 s2 s3 g => ⟨_, b_name, rfl, ev_call (x.2, a) (fun _ _ _ _ _ _ => trivial) (ea_cons (ev_var rfl (up s1 p2)) (ea_cons (ev_var rfl g) ea_nil))⟩) ea_nil)
def sp_Batch_may_get (K : PySem.W.Frag) (A : Adr) : Sp := FSp (fun x : B × Vec => [zBat A x.1, zV x.2]) noPre (fun x => zB (Vbwbad.mayAsk x.1 x.2))
theorem ok_Batch_may_get (T : Txt K mg A) : MF P w K mg base CX0 3 A.B "may_get" ["self", "things"] (sp_Batch_may_get K A) :=
  T.f_Batch_may_get.mf fun f fd Fn => body_ok Fn sc_Batch_may_get (fun _ => rfl) fun cdv B0 outer s H E hr => by
    refine ⟨_, (pss_one (ps_ret (pe_methF (ok_Batch_may_hold T) (hr.mono (by decide)) pass0 (pv 0) (pa_cons (pe_callF (ok_more T) (hr.mono (by decide)) pass0 (pa_cons (pe_fld (pv 0) rfl) (pa_cons (pv 1) pa_nil))) pa_nil)))), fun x F vs Q sF av _ k => ?_⟩
    obtain ⟨u, v, rfl, p1, p2⟩ := av.two
    refine s_retk sF k ?_
    exact ev_meth (P := zBat A x.1) (x.1, Vbwbad.plus x.1.holds x.2) (ins_bat (by decide +kernel)) (fun _ _ _ _ _ _ => trivial) rfl (ev_var rfl p1)
      (ea_cons (ev_call (x.1.holds, x.2) (fun _ _ _ _ _ _ => trivial) (ea_cons (ev_fld hf_held T.c_B T.n_B_held (ev_var rfl p1)) (ea_cons (ev_var rfl p2) ea_nil))) ea_nil)
def sp_Batch_can_end (K : PySem.W.Frag) (A : Adr) : Sp := FSp (fun x : B × Vec => [zBat A x.1, zV x.2]) noPre (fun x => zB (Vbwbad.canEnd x.2 x.1))
theorem ok_Batch_can_end (T : Txt K mg A) : MF P w K mg base CX0 2 A.B "can_end" ["self", "free"] (sp_Batch_can_end K A) :=
  T.f_Batch_can_end.mf fun f fd Fn => body_ok Fn sc_Batch_can_end (fun _ => rfl) fun cdv B0 outer s H E hr => by
    refine ⟨_, (pss_cons (ps_set (i := 2) sc_Batch_can_end.nd rfl (Or.inr rfl) (pe_callF (ok_more T) (hr.mono (by decide)) pass0 (pa_cons (pe_fld (pv 0) rfl) (pa_cons (pv 1) pa_nil))))
      (pss_one (ps_ret (pe_callB (cr_any rfl) rfl T.b_any (by decide +kernel) (pa_cons (pe_lc (own := [("one", 3)]) (g := (gName 3)) (tt := tYes) (te := (tAndV (tCall (sp_is_within K A) [] E0 (tCons (tFld K (tVar 0) "held") (tCons (tVar 3) tNil))) (tCall (sp_is_within K A) [] E0 (tCons (tVar 3) (tCons (tVar 2) tNil))))) rfl sc_Batch_can_end.nd (pi_list (pe_fld (pv 0) rfl)) (blkOk_by (N := ["self", "free", "have", "one"]) (sc := defScope s_Batch_can_end) (own := [("one", 3)]) (by decide +kernel)) (fun _ _ _ _ _ => (pg_name (i := 3) sc_Batch_can_end.nd rfl (Or.inl rfl))) (fun _ _ _ _ _ => pts_nil) (fun _ _ _ _ _ => (pe_and (pe_callF (ok_is_within T) (hr.mono (by decide)) pass0 (pa_cons (pe_fld (pv 0) rfl) (pa_cons (pv 3) pa_nil))) (pe_one (pe_callF (ok_is_within T) (hr.mono (by decide)) pass0 (pa_cons (pv 3) (pa_cons (pv 2) pa_nil))))))) pa_nil))))), fun x F vs Q sF av _ k => ?_⟩
    obtain ⟨u, v, rfl, p1, p2⟩ := av.two
    have hl : x.1.alts.length ≤ LB := by
      obtain ⟨_, _, _, _, _, _, _, q, _⟩ := p1
      exact zL_le q
    refine q_asg sF (ev_call (x.1.holds, x.2) (fun _ _ _ _ _ _ => trivial) (ea_cons (ev_fld hf_held T.c_B T.n_B_held (ev_var rfl p1)) (ea_cons (ev_var rfl p2) ea_nil))) fun hv H1 F1 u1 ph => ?_
    have p1 := up u1.ff p1
    refine s_retk u1.fh (fun v H2 F' fu => k v H2 F' (u1.trans fu)) ?_
    show Ev _ _ F1 H1 (zB (Vbwbad.canEnd x.2 x.1))
    rw [← canEndP_eq]
    unfold canEndP
    rw [← any_id]
    refine ev_any (ea_cons (ev_lcA _ hl (ei_list (ev_fld hf_alts T.c_B T.n_B_alternatives (ev_var rfl p1))) fun a ha y F2 R1 s1 s2 s3 g => ⟨_, b_name, rfl, ?_⟩) ea_nil)
    exact ev_andV (ev_call (x.1.holds, a) (fun _ _ _ _ _ _ => trivial) (ea_cons (ev_fld hf_held T.c_B T.n_B_held (ev_var rfl (up s1 p1))) (ea_cons (ev_var rfl g) ea_nil)))
      fun _ => ev_call (a, Vbwbad.plus x.1.holds x.2) (fun _ _ _ _ _ _ => trivial) (ea_cons (ev_var rfl g) (ea_cons (ev_var rfl (up s1 ph)) ea_nil))
def sp_Batch_can_go_on (K : PySem.W.Frag) (A : Adr) : Sp := FSp (fun x : B × Vec => [zBat A x.1, zV x.2]) noPre (fun x => zB (Vbwbad.canGo x.2 x.1))
theorem ok_Batch_can_go_on (T : Txt K mg A) : MF P w K mg base CX0 2 A.B "can_go_on" ["self", "free"] (sp_Batch_can_go_on K A) :=
  T.f_Batch_can_go_on.mf fun f fd Fn => body_ok Fn sc_Batch_can_go_on (fun _ => rfl) fun cdv B0 outer s H E hr => by
    refine ⟨_, (pss_one (ps_ret (pe_or (pe_cmpR op_isN (pe_fld (pv 0) rfl) pe_non (nomark _)) (pe_one (pe_callF (ok_is_within T) (hr.mono (by decide)) pass0 (pa_cons (pe_fld (pe_fld (pv 0) rfl) rfl) (pa_cons (pv 1) pa_nil))))))), fun x F vs Q sF av _ k => ?_⟩
    obtain ⟨u, v, rfl, p1, p2⟩ := av.two
    refine s_retk sF k ?_
    show Ev _ _ F H (zB (Vbwbad.canGo x.2 x.1))
    have er := ev_fld (K := K) (σ := [some u, some v]) (R := H) hf_request T.c_B T.n_B_request (ev_var (i := 0) rfl p1)
    unfold Vbwbad.canGo
    cases hw : x.1.want with
    | none =>
      rw [hw] at er
      exact ev_orV (a := true) (b := true) (ev_isN (fun v F' p => by rw [show v = .non from p]; rfl) er) (fun z => by cases z)
    | some x' =>
      rw [hw] at er
      exact ev_orV (a := false) (ev_isN (fun v F' p => by obtain ⟨a, _, _, rfl, _⟩ := p; rfl) er) fun _ => ev_call (x'.2, x.2) (fun _ _ _ _ _ _ => trivial) (ea_cons (ev_fld (hf_things (A := A) (x := x')) T.c_R T.n_R_things er) (ea_cons (ev_var rfl p2) ea_nil))
def sp_Batch_holding (K : PySem.W.Frag) (A : Adr) : Sp := FSp (fun x : B × Vec => [zBat A x.1, zV x.2]) noPre (fun x => zBat A ⟨x.1.id, x.1.alts, x.2, x.1.want⟩)
theorem ok_Batch_holding (T : Txt K mg A) : MF P w K mg base CX0 3 A.B "holding" ["self", "held"] (sp_Batch_holding K A) :=
  T.f_Batch_holding.mf fun f fd Fn => body_ok Fn sc_Batch_holding (fun _ => rfl) fun cdv B0 outer s H E hr => by
    refine ⟨_, (pss_one (ps_ret (pe_makeF (ok_Batch_init T) (hr.mono (by decide)) pass0 (pa_cons (pe_fld (pv 0) rfl) (pa_cons (pe_fld (pv 0) rfl) (pa_cons (pv 1) (pa_cons (pe_fld (pv 0) rfl) pa_nil))))))), fun x F vs Q sF av _ k => ?_⟩
    obtain ⟨u, v, rfl, p1, p2⟩ := av.two
    refine s_retk sF k ?_
    exact ev_batch ⟨x.1.id, x.1.alts, x.2, x.1.want⟩ (ea_cons (ev_fld (hf_number (b := x.1)) T.c_B T.n_B_number (ev_var rfl p1)) (ea_cons (ev_fld (hf_alts (b := x.1)) T.c_B T.n_B_alternatives (ev_var rfl p1)) (ea_cons (ev_var rfl p2) (ea_cons (ev_fld (hf_request (b := x.1)) T.c_B T.n_B_request (ev_var rfl p1)) ea_nil))))
def sp_Batch_waiting (K : PySem.W.Frag) (A : Adr) : Sp := FSp (fun x : B × Option (Nat × Vec) => [zBat A x.1, zWant A x.2]) noPre (fun x => zBat A ⟨x.1.id, x.1.alts, x.1.holds, x.2⟩)
theorem ok_Batch_waiting (T : Txt K mg A) : MF P w K mg base CX0 3 A.B "waiting" ["self", "request"] (sp_Batch_waiting K A) :=
  T.f_Batch_waiting.mf fun f fd Fn => body_ok Fn sc_Batch_waiting (fun _ => rfl) fun cdv B0 outer s H E hr => by
    refine ⟨_, (pss_one (ps_ret (pe_makeF (ok_Batch_init T) (hr.mono (by decide)) pass0 (pa_cons (pe_fld (pv 0) rfl) (pa_cons (pe_fld (pv 0) rfl) (pa_cons (pe_fld (pv 0) rfl) (pa_cons (pv 1) pa_nil))))))), fun x F vs Q sF av _ k => ?_⟩
    obtain ⟨u, v, rfl, p1, p2⟩ := av.two
    refine s_retk sF k ?_
    exact ev_batch ⟨x.1.id, x.1.alts, x.1.holds, x.2⟩ (ea_cons (ev_fld (hf_number (b := x.1)) T.c_B T.n_B_number (ev_var rfl p1)) (ea_cons (ev_fld (hf_alts (b := x.1)) T.c_B T.n_B_alternatives (ev_var rfl p1)) (ea_cons (ev_fld (hf_held (b := x.1)) T.c_B T.n_B_held (ev_var rfl p1)) (ea_cons (ev_var rfl p2) ea_nil))))
def sp_numbers_of (K : PySem.W.Frag) (A : Adr) : Sp := FSp (fun x : List B => [zBs A x]) noPre (fun x => zL zN (Vbwbad.ids x))
theorem ok_numbers_of (T : Txt K mg A) : CF P w K mg base CX0 1 "numbers_of" ["batches"] (sp_numbers_of K A) :=
  T.f_numbers_of.cf fun f fd Fn => body_ok Fn sc_numbers_of (fun _ => rfl) fun cdv B0 outer s H E hr => by
    refine ⟨_, (pss_one (ps_ret (pe_lc (own := [("batch", 1)]) (g := (gName 1)) (tt := tYes) (te := (tFld K (tVar 1) "number")) rfl sc_numbers_of.nd (pi_list (pv 0)) (blkOk_by (N := ["batches", "batch"]) (sc := defScope s_numbers_of) (own := [("batch", 1)]) (by decide +kernel)) (fun _ _ _ _ _ => (pg_name (i := 1) sc_numbers_of.nd rfl (Or.inl rfl))) (fun _ _ _ _ _ => pts_nil) (fun _ _ _ _ _ => (pe_fld (pv 1) rfl))))), fun x F vs Q sF av _ k => ?_⟩
    obtain ⟨u, rfl, p1⟩ := av.one
    refine s_retk sF k ?_
    exact ev_lcA (fun b : B => b.id) (zL_le p1) (ei_list (ev_var rfl p1)) fun a ha y F1 R1 s1 s2 s3 g => ⟨_, b_name, rfl, ev_fld hf_number T.c_B T.n_B_number (ev_var rfl g)⟩
theorem take_more {α : Type} {l : List α} {i : Nat} {x : α} (h : l[i]? = some x) : l.take (i + 1) = l.take i ++ [x] := by
  rw [List.take_add_one, h]
  rfl
def sp_given_back (K : PySem.W.Frag) (A : Adr) : Sp := FSp (fun x : Vec × List B => [zV x.1, zBs A x.2]) noPre (fun x => zV (givenBack x.1 x.2))
theorem ok_given_back (T : Txt K mg A) : CF P w K mg base CX0 2 "given_back" ["free", "batches"] (sp_given_back K A) :=
  T.f_given_back.cf fun f fd Fn => body_ok Fn sc_given_back (fun _ => rfl) fun cdv B0 outer s H E hr => by
    refine ⟨_, (pss_cons (ps_for PassesOwn.never rfl (pi_list (pv 1)) (pg_name (i := 2) sc_given_back.nd rfl (Or.inl rfl))
      (pss_one (ps_set (i := 0) sc_given_back.nd rfl (Or.inl rfl) (pe_callF (ok_more T) (hr.mono (by decide)) pass0 (pa_cons (pv 0) (pa_cons (pe_fld (pv 2) rfl) pa_nil))))))
      (pss_one (ps_ret (pv 0)))), fun x F vs Q sF av _ k => ?_⟩
    obtain ⟨u, v, rfl, p1, p2⟩ := av.two
    refine q_for sF (ei_list (ev_var rfl p2)) fun H1 F1 fu => ⟨fun i σ F' H' => Fut F1 F' H1 H' ∧ ∃ u x', σ = [some u, some v, x'] ∧ zV (givenBack x.1 (x.2.take i)) u F', ⟨Fut.refl fu.fh, u, none, rfl, up fu.ff p1⟩, fun i σ F' H' q => ⟨q.1.ff, q.1.fh⟩, ?_, ?_⟩
    · rintro i b y σ F' Hc F2 H2 hb ⟨fu2, u, x', rfl, pu⟩ fx gx
      refine b_g (s_asg fx.fh (ev_call (_, b.holds) (fun _ _ _ _ _ _ => trivial) (ea_cons (ev_var rfl (up fx.ff pu)) (ea_cons (ev_fld hf_held T.c_B T.n_B_held (ev_var rfl gx)) ea_nil))) fun v' H3 F3 fu3 pv => ⟨F3, (fu2.trans fx).trans fu3, v', some y, rfl, ?_⟩)
      rw [take_more hb]
      unfold givenBack
      rw [List.foldl_append]
      exact pv
    · rintro σ F' H' ⟨fu2, u, x', rfl, pu⟩
      rw [List.take_length] at pu
      exact s_retk fu2.fh (fun v H2 F3 f3 => k v H2 F3 ((fu.trans fu2).trans f3)) (ev_var rfl pu)
end
end G
end

section
set_option Elab.async false
set_option linter.all false
set_option maxRecDepth 100000
set_option maxHeartbeats 4000000
namespace G
open PySem PySem.Spec PyProof.Rows L2
section
variable {P : Program} {w : World} {K : PySem.W.Frag} {mg : Str → Option Value} {base : Heap} {A : Adr}
/-- nothing more to ask -/
theorem pr0 {α : Type} {x : α} {F R : Hp} : ∀ F' H' : Hp, Same F F' → Same R H' → Same F' H' → New F F' R → noPre x F' H' := fun _ _ _ _ _ _ => trivial
theorem s_ite {b : Bool} {σ : L2.St} {F H : Hp} {t : TT} {D : Ends} {tu tw : TS} (s : Same F H) (h : EvT t σ F H b) (k : ∀ H1, Fut F F H H1 → (if b = true then tu D σ H1 else tw D σ H1)) : tIfS t tu tw D σ H := h s H (Same.refl H) _ fun H1 e => k H1 (Fut.grow s e)

theorem split_at {α : Type} : ∀ {l : List α} {i : Nat} {x : α}, l[i]? = some x → l = l.take i ++ x :: l.drop (i + 1)
  | [], i, x, h => by simp at h
  | a :: l, 0, x, h => by
    have e : a = x := Option.some.inj h
    subst e
    rfl
  | a :: l, i + 1, x, h => by
    have ih := split_at (l := l) (i := i) (x := x) (by simpa using h)
    show a :: l = a :: (l.take i ++ x :: l.drop (i + 1))
    rw [← ih]
theorem ev_lst1 {α : Type} {f : α → Rp} [∀ a, MS (f a)] {te : TE} {σ : L2.St} {F R : Hp} {a : α} (h : Ev te σ F R (f a)) : Ev (tLst (tCons te tNil)) σ F R (zL f [a]) := by
  refine ev_lst [a] (by show 1 ≤ 20000; decide) ?_
  have q : EvA (tCons te tNil) σ F R [f a] := ea_cons h ea_nil
  exact q
theorem ev_lst2 {α : Type} {f : α → Rp} [∀ a, MS (f a)] {te te2 : TE} {σ : L2.St} {F R : Hp} {a b : α} (h : Ev te σ F R (f a)) (h2 : Ev te2 σ F R (f b)) : Ev (tLst (tCons te (tCons te2 tNil))) σ F R (zL f [a, b]) := by
  refine ev_lst [a, b] (by show 2 ≤ 20000; decide) ?_
  have q : EvA (tCons te (tCons te2 tNil)) σ F R [f a, f b] := ea_cons h (ea_cons h2 ea_nil)
  exact q
def sp_first_that_ends (K : PySem.W.Frag) (A : Adr) : Sp := FSp (fun x : List B × Vec => [zBs A x.1, zV x.2]) noPre (fun x => zOB A (x.1.find? (Vbwbad.canEnd x.2)))
theorem ok_first_that_ends (T : Txt K mg A) : CF P w K mg base CX0 3 "first_that_ends" ["batches", "free"] (sp_first_that_ends K A) :=
  T.f_first_that_ends.cf fun f fd Fn => body_ok Fn sc_first_that_ends (fun _ => rfl) fun cdv B0 outer s H E hr => by
    refine ⟨_, (pss_cons (ps_for PassesOwn.never rfl (pi_list (pv 0)) (pg_name (i := 2) sc_first_that_ends.nd rfl (Or.inl rfl))
      (pss_one (ps_if (pt_val (pe_methF (ok_Batch_can_end T) (hr.mono (by decide)) pass0 (pv 2) (pa_cons (pv 1) pa_nil)))
      (pss_one (ps_ret (pv 2)))
      pss_nil)))
      (pss_one (ps_ret pe_non))), fun x F vs Q sF av _ k => ?_⟩
    obtain ⟨u, v, rfl, p1, p2⟩ := av.two
    refine q_for sF (ei_list (ev_var rfl p1)) fun H1 F1 fu => ⟨fun i σ F' H' => Fut F1 F' H1 H' ∧ (∃ x', σ = [some u, some v, x']) ∧ (x.1.take i).find? (Vbwbad.canEnd x.2) = none, ⟨Fut.refl fu.fh, ⟨none, rfl⟩, rfl⟩, fun i σ F' H' q => ⟨q.1.ff, q.1.fh⟩, ?_, ?_⟩
    · rintro i b y σ F' Hc F2 H2 hb ⟨fu2, ⟨x', rfl⟩, hn⟩ fx gx
      refine b_g (s_if fx.fh (et_B (ev_meth (P := zBat A b) (b, x.2) (ins_bat (by decide +kernel)) pr0 rfl (ev_var rfl gx) (ea_cons (ev_var rfl (up ((fu.trans fu2).trans fx).ff p2)) ea_nil))) ?_ ?_)
      · intro hc H3 f3
        refine s_retk f3.fh (fun v H4 F4 f4 => k v H4 F4 (((fu.trans fu2).trans fx).trans (f3.trans f4))) ?_
        have e : x.1.find? (Vbwbad.canEnd x.2) = some b := by
          have hd : x.1 = x.1.take i ++ b :: x.1.drop (i + 1) := by
            exact split_at hb
          rw [hd, List.find?_append, hn, List.find?_cons, hc]
          rfl
        show Ev _ _ F2 H3 (zOB A (x.1.find? (Vbwbad.canEnd x.2)))
        rw [e]
        exact ev_var rfl gx
      · intro hc H3 f3
        refine ⟨F2, (fu2.trans fx).trans f3, ⟨some y, rfl⟩, ?_⟩
        rw [take_more hb, List.find?_append, hn, List.find?_cons, hc]
        rfl
    · rintro σ F' H' ⟨fu2, ⟨x', rfl⟩, hn⟩
      rw [List.take_length] at hn
      refine s_retk fu2.fh (fun v H2 F3 f3 => k v H2 F3 ((fu.trans fu2).trans f3)) ?_
      show Ev _ _ F' H' (zOB A (x.1.find? (Vbwbad.canEnd x.2)))
      rw [hn]
      exact ev_non
def sp_without (K : PySem.W.Frag) (A : Adr) : Sp := FSp (fun x : List B × B => [zBs A x.1, zBat A x.2]) noPre (fun x => zBs A (wo x.1 x.2.id))
theorem nat_ne (a b : Nat) : (!decide ((a : Int) = (b : Int))) = (a != b) := by
  rw [bne, Bool.beq_eq_decide_eq]
  congr 1
  exact decide_eq_decide.mpr Int.ofNat_inj
theorem nat_eq (a b : Nat) : decide ((a : Int) = (b : Int)) = (a == b) := by
  rw [Bool.beq_eq_decide_eq]
  exact decide_eq_decide.mpr Int.ofNat_inj
theorem ok_without (T : Txt K mg A) : CF P w K mg base CX0 1 "without" ["batches", "gone"] (sp_without K A) :=
  T.f_without.cf fun f fd Fn => body_ok Fn sc_without (fun _ => rfl) fun cdv B0 outer s H E hr => by
    refine ⟨_, (pss_one (ps_ret (pe_lc (own := [("batch", 2)]) (g := (gName 2)) (tt := (tTest (tOp rNe (tFld K (tVar 2) "number") (tFld K (tVar 1) "number")))) (te := (tVar 2)) rfl sc_without.nd (pi_list (pv 0)) (blkOk_by (N := ["batches", "gone", "batch"]) (sc := defScope s_without) (own := [("batch", 2)]) (by decide +kernel)) (fun _ _ _ _ _ => (pg_name (i := 2) sc_without.nd rfl (Or.inl rfl))) (fun _ _ _ _ _ => pts_one (pt_cmpR op_ne (pe_fld (pv 2) rfl) (pe_fld (pv 1) rfl) (nomark _))) (fun _ _ _ _ _ => (pv 2))))), fun x F vs Q sF av _ k => ?_⟩
    obtain ⟨u, v, rfl, p1, p2⟩ := av.two
    refine s_retk sF k ?_
    have := ev_lc (r := zBat A) (te := tVar 2) (vs := [2]) (tg := gName 2) (tt := tTest (tOp rNe (tFld K (tVar 2) "number") (tFld K (tVar 1) "number"))) (σ := [some u, some v, none]) (R := H) (fun b : B => b.id != x.2.id) id (zL_le p1) (ei_list (K := K) (ev_var (i := 0) rfl p1)) fun a ha y F1 R1 s1 s2 s3 g =>
      ⟨_, b_name, rfl, et_test (Ev.bl (nat_ne _ _) (ev_neI (ev_fld hf_number T.c_B T.n_B_number (ev_var rfl g)) (ev_fld hf_number T.c_B T.n_B_number (ev_var rfl (up s1 p2))))), fun _ => ev_var rfl g⟩
    rw [List.map_id] at this
    exact this
theorem zOB_none {A : Adr} {v : V} {F : Hp} {o : Option B} (p : zOB A o v F) : decide (v = .non) = o.isNone := by
  cases o with
  | none =>
    rw [show v = .non from p]
    rfl
  | some b =>
    obtain ⟨a, _, _, _, _, rfl, _⟩ := p
    rfl
def sp_ended (K : PySem.W.Frag) (A : Adr) : Sp := FSp (fun x : List B × Vec => [zBs A x.1, zV x.2]) noPre (fun x => zT [zBs A (endAll x.2 x.1).1, zBs A (endAll x.2 x.1).2])
theorem ok_ended (T : Txt K mg A) : CF P w K mg base CX0 4 "ended" ["batches", "free"] (sp_ended K A) :=
  T.f_ended.cf fun f fd Fn => body_ok Fn sc_ended (fun _ => rfl) fun cdv B0 outer s H E hr => by
    refine ⟨_, (pss_cons (ps_set (i := 2) sc_ended.nd rfl (Or.inl rfl) (pe_lst pa_nil))
      (pss_cons (ps_set (i := 3) sc_ended.nd rfl (Or.inl rfl) (pe_callTy call_list_of rfl T.b_list (by decide +kernel) (pa_cons (pv 0) pa_nil)))
      (pss_cons (ps_set (i := 4) sc_ended.nd rfl (Or.inl rfl) (pe_callF (ok_first_that_ends T) (hr.mono (by decide)) pass0 (pa_cons (pv 3) (pa_cons (pv 1) pa_nil))))
      (pss_cons (ps_while PassesOwn.never (pt_cmpR op_notN (pv 4) pe_non (nomark _))
      (pss_cons (ps_expr (pe_bm PySem.F.plainAttrs_list PySem.F.slot_list_append PySem.F.type_list_append mt_append (pv 2) (pa_cons (pv 4) pa_nil)))
      (pss_cons (ps_set (i := 3) sc_ended.nd rfl (Or.inl rfl) (pe_callF (ok_without T) (hr.mono (by decide)) pass0 (pa_cons (pv 3) (pa_cons (pv 4) pa_nil))))
      (pss_cons (ps_set (i := 1) sc_ended.nd rfl (Or.inl rfl) (pe_callF (ok_given_back T) (hr.mono (by decide)) pass0 (pa_cons (pv 1) (pa_cons (pe_lst (pa_cons (pv 4) pa_nil)) pa_nil))))
      (pss_one (ps_set (i := 4) sc_ended.nd rfl (Or.inl rfl) (pe_callF (ok_first_that_ends T) (hr.mono (by decide)) pass0 (pa_cons (pv 3) (pa_cons (pv 1) pa_nil)))))))))
      (pss_one (ps_ret (pe_tup (pa_cons (pv 2) (pa_cons (pv 3) pa_nil))))))))), fun x F vs Q sF av _ k => ?_⟩
    obtain ⟨u, v, rfl, p1, p2⟩ := av.two
    refine q_new sF fun lo nlo s0 => ?_
    have fu0 : Fut F F H (upd H lo (.lst [])) := Fut.grow sF (same_upd (Same.refl _) nlo)
    have flo : F lo = none := same_none sF nlo
    refine q_asg s0 (ev_list (ea_cons (ev_var rfl p1) ea_nil)) fun ul H1 F1 u1 pl => ?_
    refine q_asg u1.fh (ev_call (x.1, x.2) pr0 (ea_cons (ev_var rfl pl) (ea_cons (ev_var rfl (up u1.ff p2)) ea_nil))) fun ux H2 F2 u2 px => ?_
    have fu2 := (fu0.trans u1).trans u2
    have l2 : H2 lo = some (.lst []) := u2.hh _ _ (u1.hh _ _ upd_same)
    have f2 : F2 lo = none := (u1.trans u2).nw lo (by rw [upd_same]; exact fun z => by cases z) flo
    refine q_while (m0 := x.1.length) (fun m σ F' H' => ∃ (os l : List B) (g : Vec) (us : List V) (v' ul ux : V), m = l.length ∧ σ = [some u, some v', some (.ref lo), some ul, some ux] ∧ Fut F F' H H' ∧ H' lo = some (.lst us) ∧ F' lo = none ∧
      Paired (fun b u => zBat A b u F') os us ∧ zBs A l ul F' ∧ zV g v' F' ∧ zOB A (l.find? (Vbwbad.canEnd g)) ux F' ∧ endAll x.2 x.1 = (os ++ (endAll g l).1, (endAll g l).2) ∧ os.length + l.length ≤ x.1.length)
      ⟨[], x.1, x.2, [], v, ul, ux, rfl, rfl, fu2, l2, f2, .nil, up u2.ff pl, up (u1.trans u2).ff p2, px, rfl, by simp⟩ ?_
    rintro m σ F' H' ⟨os, l, g, us, v', ul, ux, rfl, rfl, fu, hl, fl, pos, pl, pg, px, he, hn⟩
    have hx1 := zL_le p1
    refine ⟨fu.fh, _, et_test (ev_notN (fun v F'' p => zOB_none p) (ev_var rfl px)), fun hb H3 u3 => ?_, fun hb H3 u3 => ?_⟩
    · cases hf : l.find? (Vbwbad.canEnd g) with
      | none =>
        rw [hf] at hb
        cases hb
      | some b =>
        rw [hf] at px
        have pb : zBat A b ux F' := px
        have hlen : us.length = os.length := pos.length.symm
        refine q_app u3.fh rfl (u3.hh _ _ hl) fl (by rw [hlen]; exact LB_lt (by omega)) (ev_var rfl pb) fun v4 H4 F4 u4 p4 f4 s4 => ?_
        have fu4 : Fut F F4 H (upd H4 lo (.lst (us ++ [v4]))) := ((fu.trans u3).trans u4).put f4 nlo
        have l4 : upd H4 lo (.lst (us ++ [v4])) lo = some (.lst (us ++ [v4])) := upd_same
        refine q_asg s4 (ev_call (l, b) pr0 (ea_cons (ev_var rfl (up u4.ff pl)) (ea_cons (ev_var rfl (up u4.ff pb)) ea_nil))) fun ul5 H5 F5 u5 p5 => ?_
        refine q_asg u5.fh (ev_call (g, [b]) pr0 (ea_cons (ev_var rfl (up (u4.ff.trans u5.ff) pg)) (ea_cons (ev_lst1 (ev_var rfl (up (u4.ff.trans u5.ff) pb))) ea_nil))) fun v6 H6 F6 u6 p6 => ?_
        refine s_asg u6.fh (ev_call (wo l b.id, Vbwbad.plus g b.holds) pr0 (ea_cons (ev_var rfl (up u6.ff p5)) (ea_cons (ev_var rfl p6) ea_nil))) fun ux7 H7 F7 u7 p7 => ?_
        have hlt := wo_length_lt (List.mem_of_find?_eq_some hf)
        have u57 := (u5.trans u6).trans u7
        refine ⟨(wo l b.id).length, F7, hlt, os ++ [b], wo l b.id, Vbwbad.plus g b.holds, us ++ [v4], v6, ul5, ux7, rfl, rfl, fu4.trans u57, u57.hh _ _ l4, u57.nw lo (by rw [l4]; exact fun z => by cases z) f4, ?_, up (u6.ff.trans u7.ff) p5, up u7.ff p6, p7, ?_, ?_⟩
        · exact paired_app (paired_up (u4.ff.trans u57.ff) pos) (.cons (up u57.ff p4) .nil)
        · rw [he, endAll_some hf]
          simp
        · rw [List.length_append]
          simp only [List.length_cons, List.length_nil]
          omega
    · cases hf : l.find? (Vbwbad.canEnd g) with
      | some b =>
        rw [hf] at hb
        cases hb
      | none =>
        rw [endAll_none hf, List.append_nil] at he
        have u9 := fu.trans u3
        have add := Fut.add u9 nlo (u3.hh _ _ hl) fl sF
        refine s_retk add.fh (fun v H4 F4 f4 => k v H4 F4 (add.trans f4)) ?_
        show Ev _ _ _ H3 (zT [zBs A (endAll x.2 x.1).1, zBs A (endAll x.2 x.1).2])
        rw [he]
        have s9 : Same F' (upd F' lo (.lst us)) := same_upd (Same.refl _) fl
        have plo : zBs A os (.ref lo) (upd F' lo (.lst us)) := ⟨lo, us, rfl, upd_same, paired_up s9 pos, by omega⟩
        exact ev_tup (by simp) (ea_cons (ev_var rfl plo) (ea_cons (ev_var rfl (up s9 pl)) ea_nil))
def sp_is_safe (K : PySem.W.Frag) (A : Adr) : Sp := FSp (fun x : List B × Vec => [zBs A x.1, zV x.2]) noPre (fun x => zB (safeB x.2 x.1))
theorem is_safe_ok {gn : Str} (T : Txt K mg A) (G : GFun K mg gn "is_safe" s_is_safe ["batches", "free"]) : CF P w K mg base CX0 5 gn ["batches", "free"] (sp_is_safe K A) :=
  G.cf fun f fd Fn => body_ok Fn sc_is_safe (fun _ => rfl) fun cdv B0 outer s H E hr => by
    refine ⟨_, (pss_one (ps_ret (pe_cmpR (op_eqNil hr.units) (pe_ix ix_tup (pe_callF (ok_ended T) (hr.mono (by decide)) pass0 (pa_cons (pv 0) (pa_cons (pv 1) pa_nil))) pe_int (fun _ _ => rfl)) (pe_lst pa_nil) (nomark _)))), fun x F vs Q sF av _ k => ?_⟩
    obtain ⟨u, v, rfl, p1, p2⟩ := av.two
    refine s_retk sF k ?_
    exact ev_eqNil (neg := false) (l := (endAll x.2 x.1).2) (g := zBat A) (ev_ixT (j := 1) (fun us F' q => by obtain ⟨a, b, rfl, q1, q2⟩ := q.two; exact ⟨b, rfl, q2⟩) rfl (ev_call (res := fun x : List B × Vec => zT [zBs A (endAll x.2 x.1).1, zBs A (endAll x.2 x.1).2]) (x.1, x.2) pr0 (ea_cons (ev_var rfl p1) (ea_cons (ev_var rfl p2) ea_nil))) ev_int) ev_nil
theorem ok_is_safe (T : Txt K mg A) : CF P w K mg base CX0 5 "is_safe" ["batches", "free"] (sp_is_safe K A) := is_safe_ok T T.f_is_safe
theorem ok_is_safe_ends (T : Txt K mg A) : CF P w K mg base CX0 5 "is_safe_ends" ["batches", "free"] (sp_is_safe K A) := is_safe_ok T T.f_is_safe_ends
theorem find_filter {α : Type} (p : α → Bool) (l : List α) : l.find? p = (l.filter p).head? := List.head?_filter.symm
def sp_locked (K : PySem.W.Frag) (A : Adr) : Sp := FSp (fun x : List B × Vec => [zBs A x.1, zV x.2]) noPre (fun x => zBs A (goAll x.2 x.1))
/-- xs[:1] -/
theorem ev_cut1 {α : Type} {f : α → Rp} [∀ a, MS (f a)] {ta tb : TE} {σ : L2.St} {F R : Hp} {l : List α} (ha : Ev ta σ F R (zL f l)) (hb : Ev tb σ F R (zI 1)) : Ev (tSl (rSlL K) ta tNoPart (tPart tb)) σ F R (zL f (l.take 1)) := fun s H1 h1 Q k =>
  ha s H1 h1 _ fun x H2 F1 u1 px => hb s H2 (h1.trans u1.hh) _ fun y H3 F2 u2 qx => ⟨1, qx, by
    obtain ⟨p, us, rfl, hp, lp, zp, pp⟩ := zL_at px
    obtain ⟨u, e1, e2⟩ := u1.join u2
    refine ⟨p, us, rfl, SqL.of (u.fh _ _ (e1 _ _ hp)), fun q hq => ?_⟩
    have u3 := Fut.new (o := HO.lst (cutV us none (some 1))) u.fh hq
    refine k _ _ _ (u.trans u3) ⟨q, _, rfl, upd_same, ?_, Nat.le_trans (by rw [List.length_take]; exact Nat.min_le_right _ _) zp⟩
    have e : cutV us none (some 1) = us.take 1 := by
      unfold cutV
      have e0 : HT.sIx us.length 0 none = 0 := HT.sIx_none _ _
      have e1 : HT.sIx us.length us.length (some 1) = min 1 us.length := HT.sIx_nat us.length us.length 1
      rw [e0, e1, List.drop_zero, Nat.sub_zero]
      cases us with
      | nil => rfl
      | cons a r => 
        have : min 1 (a :: r).length = 1 := by simp
        rw [this]
    rw [e]
    have pq := paired_up (e1.trans u3.ff) pp
    cases pq with
    | nil => exact .nil
    | cons a b => exact .cons a .nil⟩
theorem ok_locked_gn {gn : Str} (T : Txt K mg A) (G : GFun K mg gn "locked" s_locked ["batches", "free"]) : CF P w K mg base CX0 3 gn ["batches", "free"] (sp_locked K A) :=
  G.cf fun f fd Fn => body_ok Fn sc_locked (fun _ => rfl) fun cdv B0 outer s H E hr => by
    refine ⟨_, (pss_cons (ps_set (i := 2) sc_locked.nd rfl (Or.inl rfl) (pe_callTy call_list_of rfl T.b_list (by decide +kernel) (pa_cons (pv 0) pa_nil)))
      (pss_cons (ps_setLc (i := 3) (own := [("batch", 4)]) (g := (gName 4)) (tt := (tB (tMeth A.B "can_go_on" (sp_Batch_can_go_on K A) [] E0 (tVar 4) (tCons (tVar 1) tNil)))) (te := (tVar 4)) rfl sc_locked.nd rfl rfl (sw_true rfl rfl rfl (by decide +kernel)) (pi_list (pv 2)) (blkOk_by (N := ["batches", "free", "left", "going", "batch"]) (sc := defScope s_locked) (own := [("batch", 4)]) (by decide +kernel)) (fun _ _ _ _ _ => (pg_name (i := 4) sc_locked.nd rfl (Or.inl rfl))) (fun _ _ _ _ _ => pts_one (pt_val (pe_methF (ok_Batch_can_go_on T) (hr.mono (by decide)) pass0 (pv 4) (pa_cons (pv 1) pa_nil)))) (fun _ _ _ _ _ => (pv 4)))
      (pss_cons (ps_while PassesOwn.never (pt_cmpR (op_neNil hr.units) (pv 3) (pe_lst pa_nil) (nomark _))
      (pss_cons (ps_set (i := 2) sc_locked.nd rfl (Or.inl rfl) (pe_callF (ok_without T) (hr.mono (by decide)) pass0 (pa_cons (pv 2) (pa_cons (pe_ix ix_list (pv 3) pe_int (fun _ _ => rfl)) pa_nil))))
      (pss_cons (ps_set (i := 1) sc_locked.nd rfl (Or.inr rfl) (pe_callF (ok_given_back T) (hr.mono (by decide)) pass0 (pa_cons (pv 1) (pa_cons (pe_slice sl_list (pv 3) po_none (po_some pe_int)) pa_nil))))
      (pss_one (ps_setLc (i := 3) (own := [("batch", 4)]) (g := (gName 4)) (tt := (tB (tMeth A.B "can_go_on" (sp_Batch_can_go_on K A) [] E0 (tVar 4) (tCons (tVar 1) tNil)))) (te := (tVar 4)) rfl sc_locked.nd rfl rfl (sw_true rfl rfl rfl (by decide +kernel)) (pi_list (pv 2)) (blkOk_by (N := ["batches", "free", "left", "going", "batch"]) (sc := defScope s_locked) (own := [("batch", 4)]) (by decide +kernel)) (fun _ _ _ _ _ => (pg_name (i := 4) sc_locked.nd rfl (Or.inl rfl))) (fun _ _ _ _ _ => pts_one (pt_val (pe_methF (ok_Batch_can_go_on T) (hr.mono (by decide)) pass0 (pv 4) (pa_cons (pv 1) pa_nil)))) (fun _ _ _ _ _ => (pv 4)))))))
      (pss_one (ps_ret (pv 2)))))), fun x F vs Q sF av _ k => ?_⟩
    obtain ⟨u, v, rfl, p1, p2⟩ := av.two
    -- the comprehension, of any slots
    have cmp : ∀ (σ : L2.St) (F H : Hp) (l : List B) (g : Vec) (ul ug : V), l.length ≤ LB → σ[1]? = some (some ug) → σ[2]? = some (some ul) → (∀ y, ((wipe σ [4]).set 4 (some y))[4]? = some (some y)) → (∀ y, ((wipe σ [4]).set 4 (some y))[1]? = some (some ug)) → (∀ y, wipe ((wipe σ [4]).set 4 (some y)) [4] = wipe σ [4]) → zBs A l ul F → zV g ug F →
        Ev (tLc (iList K (tVar 2)) (gName 4) (tB (tMeth A.B "can_go_on" (sp_Batch_can_go_on K A) [] E0 (tVar 4) (tCons (tVar 1) tNil))) (tVar 4) [4]) σ F H (zBs A (l.filter (Vbwbad.canGo g))) := by
      intro σ F H l g ul ug hl h1 h2 h3 h4 h5 pl pg
      have := ev_lc (r := zBat A) (te := tVar 4) (vs := [4]) (tg := gName 4) (tt := tB (tMeth A.B "can_go_on" (sp_Batch_can_go_on K A) [] E0 (tVar 4) (tCons (tVar 1) tNil))) (σ := σ) (R := H) (Vbwbad.canGo g) id hl (ei_list (K := K) (ev_var h2 pl)) fun a ha y F1 R1 s1 s2 s3 gy =>
        ⟨_, b_name, h5 y, et_B (ev_meth (P := zBat A a) (a, g) (ins_bat (by decide +kernel)) pr0 rfl (ev_var (h3 y) gy) (ea_cons (ev_var (h4 y) (up s1 pg)) ea_nil)), fun _ => ev_var (h3 y) gy⟩
      rw [List.map_id] at this
      exact this
    refine q_asg sF (ev_list (ea_cons (ev_var rfl p1) ea_nil)) fun ul H1 F1 u1 pl => ?_
    refine q_asg u1.fh (cmp _ F1 H1 x.1 x.2 ul v (zL_le p1) rfl rfl (fun _ => rfl) (fun _ => rfl) (fun _ => rfl) pl (up u1.ff p2)) fun ug H2 F2 u2 pg => ?_
    refine q_while (m0 := x.1.length) (fun m σ F' H' => ∃ (l : List B) (g : Vec) (v' ul ug : V) (x' : Option V), m = l.length ∧ σ = [some u, some v', some ul, some ug, x'] ∧ Fut F F' H H' ∧ zBs A l ul F' ∧ zV g v' F' ∧ zBs A (l.filter (Vbwbad.canGo g)) ug F' ∧ goAll x.2 x.1 = goAll g l ∧ l.length ≤ LB)
      ⟨x.1, x.2, v, ul, ug, none, rfl, rfl, u1.trans u2, up u2.ff pl, up (u1.trans u2).ff p2, pg, rfl, zL_le p1⟩ ?_
    rintro m σ F' H' ⟨l, g, v', ul, ug, x', rfl, rfl, fu, pl, pv', pg, he, hl⟩
    refine ⟨fu.fh, _, et_test (ev_eqNil (neg := true) (g := zBat A) (ev_var rfl pg) ev_nil), fun hb H3 u3 => ?_, fun hb H3 u3 => ?_⟩
    · cases hf : l.filter (Vbwbad.canGo g) with
      | nil =>
        rw [hf] at hb
        cases hb
      | cons b r =>
        have hfind : l.find? (Vbwbad.canGo g) = some b := by
          rw [find_filter, hf]
          rfl
        rw [hf] at pg
        refine q_asg u3.fh (ev_call (l, b) pr0 (ea_cons (ev_var rfl pl) (ea_cons (ev_ix (j := 0) rfl rfl (ev_var rfl pg) ev_int) ea_nil))) fun ul4 H4 F4 u4 p4 => ?_
        refine q_asg u4.fh (ev_call (g, [b]) pr0 (ea_cons (ev_var rfl (up u4.ff pv')) (ea_cons (ev_cut1 (l := b :: r) (ev_var rfl (up u4.ff pg)) ev_int) ea_nil))) fun v5 H5 F5 u5 p5 => ?_
        have hlt := wo_length_lt (List.mem_of_find?_eq_some hfind)
        refine s_asg u5.fh (cmp _ F5 H5 (wo l b.id) (Vbwbad.plus g b.holds) ul4 v5 (by omega) rfl rfl (fun _ => rfl) (fun _ => rfl) (fun _ => rfl) (up u5.ff p4) p5) fun ug6 H6 F6 u6 p6 => ?_
        exact ⟨_, F6, hlt, wo l b.id, Vbwbad.plus g b.holds, v5, ul4, ug6, x', rfl, rfl, (((fu.trans u3).trans u4).trans u5).trans u6, up (u5.ff.trans u6.ff) p4, up u6.ff p5, p6, by rw [he, goAll_some hfind], by omega⟩
    · cases hf : l.filter (Vbwbad.canGo g) with
      | cons b r =>
        rw [hf] at hb
        cases hb
      | nil =>
        have hfind : l.find? (Vbwbad.canGo g) = none := by
          rw [find_filter, hf]
          rfl
        refine s_retk u3.fh (fun v H4 F4 f4 => k v H4 F4 ((fu.trans u3).trans f4)) ?_
        show Ev _ _ _ H3 (zBs A (goAll x.2 x.1))
        rw [he, goAll_none hfind]
        exact ev_var rfl pl
theorem ok_locked (T : Txt K mg A) : CF P w K mg base CX0 3 "locked" ["batches", "free"] (sp_locked K A) := ok_locked_gn T T.f_locked
theorem ok_locked_ends (T : Txt K mg A) : CF P w K mg base CX0 3 "locked_ends" ["batches", "free"] (sp_locked K A) := ok_locked_gn T T.f_locked_ends
end
end G
end

section
set_option Elab.async false
set_option linter.all false
set_option maxRecDepth 100000
set_option maxHeartbeats 4000000
namespace G
open PySem PySem.Spec PyProof.Rows L2
abbrev S := Vbwbad.State
section
variable {P : Program} {w : World} {K : PySem.W.Frag} {mg : Str → Option Value} {base : Heap} {A : Adr}
def hF (u1 u2 u3 : V) : List (Str × V) := [("totals", u1), ("batches", u2), ("many_waited", u3)]
/-- the house at a, in the state s -/
def HouseAt (A : Adr) (a : Addr) (s : S) (F R : Hp) : Prop := F a = none ∧ ∃ dx u1 u2, R a = some (.ins A.H dx (hF u1 u2 (.int (s.next : Nat)))) ∧ zV s.totals u1 F ∧ zBs A s.batches u2 F
theorem HouseAt.ne {a : Addr} {s : S} {F R : Hp} (h : HouseAt A a s F R) : R a ≠ none := by
  obtain ⟨_, dx, u1, u2, q, _⟩ := h
  rw [q]
  exact fun z => by cases z
theorem HouseAt.up {a : Addr} {s : S} {F F' R R' : Hp} (h : HouseAt A a s F R) (s1 : Same F F') (s2 : Same R R') (n : New F F' R) : HouseAt A a s F' R' := by
  have hn := h.ne
  obtain ⟨fa, dx, u1, u2, q, p1, p2⟩ := h
  exact ⟨n a hn fa, dx, u1, u2, s2 _ _ q, G.up s1 p1, G.up s1 p2⟩
theorem HouseAt.fut {a : Addr} {s : S} {F F' R R' : Hp} (h : HouseAt A a s F R) (u : Fut F F' R R') : HouseAt A a s F' R' := h.up u.ff u.hh u.nw
theorem hF_tot {u1 u2 u3 : V} : (hF u1 u2 u3).lookup ("totals" : Str) = some u1 := lk_here
theorem hF_bat {u1 u2 u3 : V} : (hF u1 u2 u3).lookup ("batches" : Str) = some u2 := (lk_past (by decide +kernel)).trans lk_here
theorem hF_mw {u1 u2 u3 : V} : (hF u1 u2 u3).lookup ("many_waited" : Str) = some u3 := (lk_past (by decide +kernel)).trans ((lk_past (by decide +kernel)).trans lk_here)
section
variable {a : Addr} {s : S} {F R : Hp} {σ : L2.St} {ta : TE}
theorem ev_tot (T : Txt K mg A) (h : HouseAt A a s F R) (ha : Ev ta σ F R (zAt a)) : Ev (tFld K ta "totals") σ F R (zV s.totals) := by
  obtain ⟨fa, dx, u1, u2, q, p1, p2⟩ := h
  exact ev_fldA q hF_tot p1 T.c_H T.n_H_totals ha
theorem ev_bts (T : Txt K mg A) (h : HouseAt A a s F R) (ha : Ev ta σ F R (zAt a)) : Ev (tFld K ta "batches") σ F R (zBs A s.batches) := by
  obtain ⟨fa, dx, u1, u2, q, p1, p2⟩ := h
  exact ev_fldA q hF_bat p2 T.c_H T.n_H_batches ha
theorem ev_mw (T : Txt K mg A) (h : HouseAt A a s F R) (ha : Ev ta σ F R (zAt a)) : Ev (tFld K ta "many_waited") σ F R (zN s.next) := by
  obtain ⟨fa, dx, u1, u2, q, p1, p2⟩ := h
  exact ev_fldA (P1 := zN s.next) q hF_mw rfl T.c_H T.n_H_many_waited ha
theorem ins_house {m : Str} (h : HouseAt A a s F R) (hm : notIn m ["totals", "batches", "many_waited"] = true) : InsIn (zAt a) A.H m F R := fun v F' H' _ s2 _ p => by
  obtain ⟨fa, dx, u1, u2, q, _⟩ := h
  exact ⟨a, dx, _, p, s2 _ _ q, lk_none hm⟩
theorem HouseAt.len {F R : Hp} (h : HouseAt A a s F R) : s.batches.length ≤ LB := by
  obtain ⟨_, _, _, _, _, _, p⟩ := h
  exact zL_le p
theorem HouseAt.tlen {F R : Hp} (h : HouseAt A a s F R) : s.totals.length ≤ LB := by
  obtain ⟨_, _, _, _, _, p, _⟩ := h
  exact zL_le p
end
theorem zAt_rfl {a : Addr} {F : Hp} : zAt a (.ref a) F := rfl
/-- a method of the house that changes nothing -/
abbrev hSp (A : Adr) {α : Type} (args : Addr × S × α → List Rp) (pre : Addr × S × α → Prop) (res : Addr × S × α → Rp) : Sp := FSp (fun x => zAt x.1 :: args x) (fun x F H => HouseAt A x.1 x.2.1 F H ∧ WF x.2.1 ∧ pre x) res
/-- it is called -/
theorem ev_hm {α : Type} {args : Addr × S × α → List Rp} {pre : Addr × S × α → Prop} {res : Addr × S × α → Rp} {a : Addr} {s : S} {F R : Hp} {σ : L2.St} {ta : TE} {tr : TA} {E : XK} {m : Str} (x : α) (h : HouseAt A a s F R) (wf : WF s) (hp : pre (a, s, x)) (hm : notIn m ["totals", "batches", "many_waited"] = true) (ha : Ev ta σ F R (zAt a)) [MSs (args (a, s, x))] (hr : EvA tr σ F R (args (a, s, x))) :
    Ev (tMeth A.H m (hSp A args pre res) [] E ta tr) σ F R (res (a, s, x)) :=
  ev_meth (P := zAt a) (a, s, x) (ins_house h hm) (fun F' H' s1 s2 _ n => ⟨h.up s1 s2 n, wf, hp⟩) rfl ha hr

def sp_House_free (K : PySem.W.Frag) (A : Adr) : Sp := hSp A (α := Unit) (fun _ => []) (fun _ => True) (fun x => zV (Vbwbad.free x.2.1))
theorem zero_rep (s : S) : Vbwbad.zero s = List.replicate s.totals.length 0 := by
  unfold Vbwbad.zero
  rw [List.map_const']
theorem ok_House_free (T : Txt K mg A) : MF P w K mg base CX0 3 A.H "free" ["self"] (sp_House_free K A) :=
  T.f_House_free.mf fun f fd Fn => body_ok Fn sc_House_free (fun _ => rfl) fun cdv B0 outer s H E hr => by
    refine ⟨_, (pss_cons (ps_set (i := 1) sc_House_free.nd rfl (Or.inl rfl) (pe_callF (ok_given_back T) (hr.mono (by decide)) pass0 (pa_cons (pe_op op_rep (pe_lst (pa_cons pe_int pa_nil)) (pe_callB call_len_seq rfl T.b_len (by decide +kernel) (pa_cons (pe_fld (pv 0) rfl) pa_nil))) (pa_cons (pe_fld (pv 0) rfl) pa_nil))))
      (pss_one (ps_ret (pe_callF (ok_less T) (hr.mono (by decide)) pass0 (pa_cons (pe_fld (pv 0) rfl) (pa_cons (pv 1) pa_nil)))))), fun x F vs Q sF av pr k => ?_⟩
    obtain ⟨a, st, _⟩ := x
    obtain ⟨u, rfl, p0⟩ := av.one
    obtain rfl : u = .ref a := p0
    obtain ⟨hA, wf, _⟩ := pr
    have hx := hA.tlen
    refine q_asg sF (ev_call (Vbwbad.zero st, st.batches) pr0 (ea_cons ?_ (ea_cons (ev_bts T hA (ev_var rfl zAt_rfl)) ea_nil))) fun hv H1 F1 u1 ph => ?_
    · show Ev _ _ F H (zV (Vbwbad.zero st))
      rw [zero_rep]
      exact ev_rep0 hx (ev_lst1 (f := zN) (a := 0) ev_int) (ev_len (ea_cons (ev_tot T hA (ev_var rfl zAt_rfl)) ea_nil))
    · have hA := hA.fut u1
      refine s_retk u1.fh (fun v H2 F' fu => k v H2 F' (u1.trans fu)) ?_
      exact ev_call (st.totals, Vbwbad.held st) (fun _ _ _ _ _ _ => wf.fits) (ea_cons (ev_tot T hA (ev_var rfl zAt_rfl)) (ea_cons (ev_var rfl ph) ea_nil))
theorem ev_free {a : Addr} {s : S} {F R : Hp} {σ : L2.St} {ta : TE} {E : XK} (h : HouseAt A a s F R) (wf : WF s) (ha : Ev ta σ F R (zAt a)) : Ev (tMeth A.H "free" (sp_House_free K A) [] E ta tNil) σ F R (zV (Vbwbad.free s)) :=
  ev_hm () h wf trivial (by decide +kernel) ha ea_nil
def sp_House_find (K : PySem.W.Frag) (A : Adr) : Sp := hSp A (α := Nat) (fun x => [zN x.2.2]) (fun _ => True) (fun x => zOB A (Vbwbad.batchOf x.2.1 x.2.2))
theorem ok_House_find (T : Txt K mg A) : MF P w K mg base CX0 1 A.H "find" ["self", "number"] (sp_House_find K A) :=
  T.f_House_find.mf fun f fd Fn => body_ok Fn sc_House_find (fun _ => rfl) fun cdv B0 outer s H E hr => by
    refine ⟨_, (pss_cons (ps_for PassesOwn.never rfl (pi_list (pe_fld (pv 0) rfl)) (pg_name (i := 2) sc_House_find.nd rfl (Or.inl rfl))
      (pss_one (ps_if (pt_cmpR op_eq (pe_fld (pv 2) rfl) (pv 1) (nomark _))
      (pss_one (ps_ret (pv 2)))
      pss_nil)))
      (pss_one (ps_ret pe_non))), fun x F vs Q sF av pr k => ?_⟩
    obtain ⟨a, st, n⟩ := x
    obtain ⟨u, v, rfl, p0, p1⟩ := av.two
    obtain rfl : u = .ref a := p0
    obtain ⟨hA, wf, _⟩ := pr
    refine q_for sF (ei_list (ev_bts T hA (ev_var rfl zAt_rfl))) fun H1 F1 fu => ⟨fun i σ F' H' => Fut F1 F' H1 H' ∧ (∃ x', σ = [some (.ref a), some v, x']) ∧ (st.batches.take i).find? (fun b => b.id == n) = none, ⟨Fut.refl fu.fh, ⟨none, rfl⟩, rfl⟩, fun i σ F' H' q => ⟨q.1.ff, q.1.fh⟩, ?_, ?_⟩
    · rintro i b y σ F' Hc F2 H2 hb ⟨fu2, ⟨x', rfl⟩, hn⟩ fx gx
      refine b_g (s_if fx.fh (et_test (Ev.bl (nat_eq b.id n) (ev_eqI (ev_fld hf_number T.c_B T.n_B_number (ev_var rfl gx)) (ev_var rfl p1)))) ?_ ?_)
      · intro hc H3 f3
        refine s_retk f3.fh (fun v H4 F4 f4 => k v H4 F4 (((fu.trans fu2).trans fx).trans (f3.trans f4))) ?_
        have e : Vbwbad.batchOf st n = some b := by
          unfold Vbwbad.batchOf
          rw [split_at hb, List.find?_append, hn, List.find?_cons, hc]
          rfl
        show Ev _ _ F2 H3 (zOB A (Vbwbad.batchOf st n))
        rw [e]
        exact ev_var rfl gx
      · intro hc H3 f3
        refine ⟨F2, (fu2.trans fx).trans f3, ⟨some y, rfl⟩, ?_⟩
        rw [take_more hb, List.find?_append, hn, List.find?_cons, hc]
        rfl
    · rintro σ F' H' ⟨fu2, ⟨x', rfl⟩, hn⟩
      rw [List.take_length] at hn
      refine s_retk fu2.fh (fun v H2 F3 f3 => k v H2 F3 ((fu.trans fu2).trans f3)) ?_
      show Ev _ _ F' H' (zOB A (Vbwbad.batchOf st n))
      unfold Vbwbad.batchOf
      rw [hn]
      exact ev_non
def sp_House_with_batch (K : PySem.W.Frag) (A : Adr) : Sp := hSp A (α := B) (fun x => [zBat A x.2.2]) (fun _ => True) (fun x => zBs A (Vbwbad.put x.2.1 x.2.2).batches)
theorem ok_House_with_batch (T : Txt K mg A) : MF P w K mg base CX0 1 A.H "with_batch" ["self", "changed"] (sp_House_with_batch K A) :=
  T.f_House_with_batch.mf fun f fd Fn => body_ok Fn sc_House_with_batch (fun _ => rfl) fun cdv B0 outer s H E hr => by
    refine ⟨_, (pss_cons (ps_set (i := 2) sc_House_with_batch.nd rfl (Or.inl rfl) (pe_lst pa_nil))
      (pss_cons (ps_for PassesOwn.never rfl (pi_list (pe_fld (pv 0) rfl)) (pg_name (i := 3) sc_House_with_batch.nd rfl (Or.inl rfl))
      (pss_one (ps_if (pt_cmpR op_eq (pe_fld (pv 3) rfl) (pe_fld (pv 1) rfl) (nomark _))
      (pss_one (ps_expr (pe_bm PySem.F.plainAttrs_list PySem.F.slot_list_append PySem.F.type_list_append mt_append (pv 2) (pa_cons (pv 1) pa_nil))))
      (pss_one (ps_expr (pe_bm PySem.F.plainAttrs_list PySem.F.slot_list_append PySem.F.type_list_append mt_append (pv 2) (pa_cons (pv 3) pa_nil)))))))
      (pss_one (ps_ret (pv 2))))), fun x F vs Q sF av pr k => ?_⟩
    obtain ⟨a, st, c⟩ := x
    obtain ⟨u, v, rfl, p0, p1⟩ := av.two
    obtain rfl : u = .ref a := p0
    obtain ⟨hA, wf, _⟩ := pr
    have hx := hA.len
    refine q_new sF fun lo nlo s0 => ?_
    have fu0 : Fut F F H (upd H lo (.lst [])) := Fut.grow sF (same_upd (Same.refl _) nlo)
    have flo : F lo = none := same_none sF nlo
    refine q_for s0 (ei_list (ev_bts T (hA.fut fu0) (ev_var rfl zAt_rfl))) fun H1 F1 fu => ⟨fun i σ F' H' => Fut F F' H H' ∧ Same F1 F' ∧ ∃ us x', σ = [some (.ref a), some v, some (.ref lo), x'] ∧ H' lo = some (.lst us) ∧ F' lo = none ∧ Paired (fun b u => zBat A b u F') ((st.batches.take i).map fun y => if y.id = c.id then c else y) us,
      ⟨fu0.trans fu, Same.refl _, [], none, rfl, fu.hh _ _ upd_same, fu.nw lo (by rw [upd_same]; exact fun z => by cases z) flo, .nil⟩, fun i σ F' H' q => ⟨q.2.1, q.1.fh⟩, ?_, ?_⟩
    · rintro i b y σ F' Hc F2 H2 hb ⟨fu2, sf, us, x', rfl, hl, fl, pr⟩ fx gx
      have fl2 : F2 lo = none := fx.nw lo (by rw [hl]; exact fun z => by cases z) fl
      have hl2 := fx.hh _ _ hl
      have hlen : us.length < sizeLine := by
        rw [← pr.length, List.length_map, List.length_take]
        exact LB_lt (Nat.le_trans (Nat.min_le_right _ _) hx)
      have fin : ∀ (e : B) (te : TE) (H3 : Hp), Fut F2 F2 H2 H3 → (if b.id = c.id then c else b) = e → Ev te [some (.ref a), some v, some (.ref lo), some y] F2 H3 (zBat A e) → ∀ D : Ends, (∀ σ' H', (∃ F'', Fut F F'' H H' ∧ Same F1 F'' ∧ ∃ us x', σ' = [some (.ref a), some v, some (.ref lo), x'] ∧ H' lo = some (.lst us) ∧ F'' lo = none ∧ Paired (fun b u => zBat A b u F'') ((st.batches.take (i + 1)).map fun y => if y.id = c.id then c else y) us) → D.nx σ' H') →
          tDrop (tBM K "list" rAppend (tVar 2) (tCons te tNil)) D [some (.ref a), some v, some (.ref lo), some y] H3 := by
        intro e te H3 f3 he ev D hD
        refine s_app f3.fh rfl (f3.hh _ _ hl2) fl2 hlen ev fun v4 H4 F4 u4 p4 f4 s4 => hD _ _ ⟨F4, (((fu2.trans fx).trans f3).trans u4).put f4 nlo, (sf.trans fx.ff).trans u4.ff, _, _, rfl, upd_same, f4, ?_⟩
        rw [take_more hb, List.map_append]
        refine paired_app (paired_up (fx.ff.trans u4.ff) pr) (.cons ?_ .nil)
        show zBat A (if b.id = c.id then c else b) v4 F4
        rw [he]
        exact p4
      refine b_g (s_if fx.fh (et_test (ev_eqI (ev_fld hf_number T.c_B T.n_B_number (ev_var rfl gx)) (ev_fld hf_number T.c_B T.n_B_number (ev_var rfl (up ((fu0.trans fu).ff.trans (sf.trans fx.ff)) p1))))) ?_ ?_)
      · intro hc H3 f3
        have hc' : b.id = c.id := Int.ofNat_inj.mp (of_decide_eq_true hc)
        exact fin c _ H3 f3 (if_pos hc') (ev_var rfl (up ((fu0.trans fu).ff.trans (sf.trans fx.ff)) p1)) _ fun _ _ q => q
      · intro hc H3 f3
        have hc' : ¬ b.id = c.id := fun z => of_decide_eq_false hc (by rw [z])
        exact fin b _ H3 f3 (if_neg hc') (ev_var rfl gx) _ fun _ _ q => q
    · rintro σ F' H' ⟨fu2, sf, us, x', rfl, hl, fl, pr⟩
      rw [List.take_length] at pr
      have add := Fut.add fu2 nlo hl fl sF
      refine s_retk add.fh (fun v H4 F4 f4 => k v H4 F4 (add.trans f4)) (ev_var rfl ?_)
      exact ⟨lo, us, rfl, upd_same, paired_up (same_upd (Same.refl _) fl) pr, by rw [Vbwbad.put, List.length_map]; exact hx⟩
def sp_House_with_more (K : PySem.W.Frag) (A : Adr) : Sp := hSp A (α := B × Vec) (fun x => [zBat A x.2.2.1, zV x.2.2.2]) (fun _ => True) (fun x => zBs A (giveB x.2.1 x.2.2.1 x.2.2.2))
theorem ok_House_with_more (T : Txt K mg A) : MF P w K mg base CX0 4 A.H "with_more" ["self", "batch", "things"] (sp_House_with_more K A) :=
  T.f_House_with_more.mf fun f fd Fn => body_ok Fn sc_House_with_more (fun _ => rfl) fun cdv B0 outer s H E hr => by
    refine ⟨_, (pss_one (ps_ret (pe_methF (ok_House_with_batch T) (hr.mono (by decide)) pass0 (pv 0) (pa_cons (pe_methF (ok_Batch_holding T) (hr.mono (by decide)) pass0 (pv 1) (pa_cons (pe_callF (ok_more T) (hr.mono (by decide)) pass0 (pa_cons (pe_fld (pv 1) rfl) (pa_cons (pv 2) pa_nil))) pa_nil)) pa_nil)))), fun x F vs Q sF av pr k => ?_⟩
    obtain ⟨a, st, b, v⟩ := x
    obtain ⟨u, ub, uv, rfl, p0, p1, p2⟩ := av.three
    obtain rfl : u = .ref a := p0
    obtain ⟨hA, wf, _⟩ := pr
    refine s_retk sF k ?_
    exact ev_hm (res := fun x : Addr × S × B => zBs A (Vbwbad.put x.2.1 x.2.2).batches) (moreOf b v) hA wf trivial (by decide +kernel) (ev_var rfl zAt_rfl)
      (ea_cons (ev_meth (P := zBat A b) (b, Vbwbad.plus b.holds v) (ins_bat (by decide +kernel)) pr0 rfl (ev_var rfl p1) (ea_cons (ev_call (b.holds, v) pr0 (ea_cons (ev_fld hf_held T.c_B T.n_B_held (ev_var rfl p1)) (ea_cons (ev_var rfl p2) ea_nil))) ea_nil)) ea_nil)
end
end G
end

section
set_option Elab.async false
set_option linter.all false
set_option maxRecDepth 100000
set_option maxHeartbeats 4000000
namespace G
open PySem PySem.Spec PyProof.Rows L2
section
variable {P : Program} {w : World} {K : PySem.W.Frag} {mg : Str → Option Value} {base : Heap} {A : Adr}
def sp_House_stuck_with (K : PySem.W.Frag) (A : Adr) : Sp := hSp A (α := B × Vec) (fun x => [zBat A x.2.2.1, zV x.2.2.2]) (fun x => Vbwbad.within x.2.2.2 (Vbwbad.free x.2.1) = true) (fun x => zBs A (endAll (Vbwbad.minus (Vbwbad.free x.2.1) x.2.2.2) (giveB x.2.1 x.2.2.1 x.2.2.2)).2)
theorem ok_House_stuck_with (T : Txt K mg A) : MF P w K mg base CX0 5 A.H "stuck_with" ["self", "batch", "things"] (sp_House_stuck_with K A) :=
  T.f_House_stuck_with.mf fun f fd Fn => body_ok Fn sc_House_stuck_with (fun _ => rfl) fun cdv B0 outer s H E hr => by
    refine ⟨_, (pss_one (ps_ret (pe_ix ix_tup (pe_callF (ok_ended T) (hr.mono (by decide)) pass0 (pa_cons (pe_methF (ok_House_with_more T) (hr.mono (by decide)) pass0 (pv 0) (pa_cons (pv 1) (pa_cons (pv 2) pa_nil))) (pa_cons (pe_callF (ok_less T) (hr.mono (by decide)) pass0 (pa_cons (pe_methF0 (ok_House_free T) (hr.mono (by decide)) pass0 (pv 0)) (pa_cons (pv 2) pa_nil))) pa_nil))) pe_int (fun _ _ => rfl)))), fun x F vs Q sF av pr k => ?_⟩
    obtain ⟨a, st, b, v⟩ := x
    obtain ⟨u, ub, uv, rfl, p0, p1, p2⟩ := av.three
    obtain rfl : u = .ref a := p0
    obtain ⟨hA, wf, hw⟩ := pr
    refine s_retk sF k ?_
    refine ev_ixT (Ps := [zBs A (endAll (Vbwbad.minus (Vbwbad.free st) v) (giveB st b v)).1, zBs A (endAll (Vbwbad.minus (Vbwbad.free st) v) (giveB st b v)).2]) (j := 1) (fun us F' q => by obtain ⟨a, b, rfl, q1, q2⟩ := q.two; exact ⟨b, rfl, q2⟩) rfl ?_ ev_int
    exact ev_call (res := fun x : List B × Vec => zT [zBs A (endAll x.2 x.1).1, zBs A (endAll x.2 x.1).2]) (giveB st b v, Vbwbad.minus (Vbwbad.free st) v) pr0
      (ea_cons (ev_hm (b, v) hA wf trivial (by decide +kernel) (ev_var rfl zAt_rfl) (ea_cons (ev_var rfl p1) (ea_cons (ev_var rfl p2) ea_nil)))
        (ea_cons (ev_call (Vbwbad.free st, v) (fun _ _ _ _ _ _ => hw) (ea_cons (ev_free hA wf (ev_var rfl zAt_rfl)) (ea_cons (ev_var rfl p2) ea_nil))) ea_nil))
def sp_House_can_grant (K : PySem.W.Frag) (A : Adr) : Sp := hSp A (α := B × Vec) (fun x => [zBat A x.2.2.1, zV x.2.2.2]) (fun _ => True) (fun x => zB (canGrantP x.2.1 x.2.2.1 x.2.2.2))
theorem ok_House_can_grant (T : Txt K mg A) : MF P w K mg base CX0 6 A.H "can_grant" ["self", "batch", "things"] (sp_House_can_grant K A) :=
  T.f_House_can_grant.mf fun f fd Fn => body_ok Fn sc_House_can_grant (fun _ => rfl) fun cdv B0 outer s H E hr => by
    refine ⟨_, (pss_one (ps_ret (pe_and (pe_callF (ok_is_within T) (hr.mono (by decide)) pass0 (pa_cons (pv 2) (pa_cons (pe_methF0 (ok_House_free T) (hr.mono (by decide)) pass0 (pv 0)) pa_nil))) (pe_one (pe_cmpR (op_eqNil hr.units) (pe_methF (ok_House_stuck_with T) (hr.mono (by decide)) pass0 (pv 0) (pa_cons (pv 1) (pa_cons (pv 2) pa_nil))) (pe_lst pa_nil) (nomark _)))))), fun x F vs Q sF av pr k => ?_⟩
    obtain ⟨a, st, b, v⟩ := x
    obtain ⟨u, ub, uv, rfl, p0, p1, p2⟩ := av.three
    obtain rfl : u = .ref a := p0
    obtain ⟨hA, wf, _⟩ := pr
    refine s_retk sF k ?_
    refine ev_andV (a := Vbwbad.within v (Vbwbad.free st)) (b := safeB (Vbwbad.minus (Vbwbad.free st) v) (giveB st b v)) (ev_call (v, Vbwbad.free st) pr0 (ea_cons (ev_var rfl p2) (ea_cons (ev_free hA wf (ev_var rfl zAt_rfl)) ea_nil))) fun hw => ?_
    exact ev_eqNil (neg := false) (g := zBat A) (ev_hm (res := fun x : Addr × S × B × Vec => zBs A (endAll (Vbwbad.minus (Vbwbad.free x.2.1) x.2.2.2) (giveB x.2.1 x.2.2.1 x.2.2.2)).2) (b, v) hA wf hw (by decide +kernel) (ev_var rfl zAt_rfl) (ea_cons (ev_var rfl p1) (ea_cons (ev_var rfl p2) ea_nil))) ev_nil
def sp_House_is_safe (K : PySem.W.Frag) (A : Adr) : Sp := hSp A (α := Unit) (fun _ => []) (fun _ => True) (fun x => zB (safeB (Vbwbad.free x.2.1) x.2.1.batches))
theorem ok_House_is_safe (T : Txt K mg A) : MF P w K mg base CX0 6 A.H "is_safe" ["self"] (sp_House_is_safe K A) :=
  T.f_House_is_safe.mf fun f fd Fn => body_ok Fn sc_House_is_safe (fun _ => rfl) fun cdv B0 outer s H E hr => by
    refine ⟨_, (pss_one (ps_ret (pe_callF (ok_is_safe_ends T) (hr.mono (by decide)) pass0 (pa_cons (pe_fld (pv 0) rfl) (pa_cons (pe_methF0 (ok_House_free T) (hr.mono (by decide)) pass0 (pv 0)) pa_nil))))), fun x F vs Q sF av pr k => ?_⟩
    obtain ⟨a, st, _⟩ := x
    obtain ⟨u, rfl, p0⟩ := av.one
    obtain rfl : u = .ref a := p0
    obtain ⟨hA, wf, _⟩ := pr
    refine s_retk sF k ?_
    exact ev_call (st.batches, Vbwbad.free st) pr0 (ea_cons (ev_bts T hA (ev_var rfl zAt_rfl)) (ea_cons (ev_free hA wf (ev_var rfl zAt_rfl)) ea_nil))
def sp_House_copies (K : PySem.W.Frag) (A : Adr) : Sp := hSp A (α := Nat × Nat) (fun x => [zN x.2.2.1, zN x.2.2.2]) (fun _ => True) (fun x => zV (Vbwbad.unit x.2.1 x.2.2.1 x.2.2.2))
theorem mul_ite (n i j : Nat) : (n : Int) * (if (i == j) then 1 else 0) = ((if i = j then n else 0 : Nat) : Int) := by
  by_cases h : i = j
  · subst h
    simp
  · simp [h]
theorem ok_House_copies (T : Txt K mg A) : MF P w K mg base CX0 1 A.H "copies" ["self", "j", "many"] (sp_House_copies K A) :=
  T.f_House_copies.mf fun f fd Fn => body_ok Fn sc_House_copies (fun _ => rfl) fun cdv B0 outer s H E hr => by
    refine ⟨_, (pss_one (ps_ret (pe_lc (own := [("kind", 3)]) (g := (gName 3)) (tt := tYes) (te := (tOp (rI CMul fun i j => .int (i * j)) (tVar 2) (tCB (fun xs H Q => (∃ i, xs = [.int i] ∧ Q (.int i) H) ∨ ∃ k, xs = [.bl k] ∧ Q (.int (if k then 1 else 0)) H) (tCons (tOp rEq (tVar 3) (tVar 1)) tNil)))) rfl sc_House_copies.nd (pi_range1 rfl T.b_range (pa_cons (pe_callB call_len_seq rfl T.b_len (by decide +kernel) (pa_cons (pe_fld (pv 0) rfl) pa_nil)) pa_nil)) (blkOk_by (N := ["self", "j", "many", "kind"]) (sc := defScope s_House_copies) (own := [("kind", 3)]) (by decide +kernel)) (fun _ _ _ _ _ => (pg_name (i := 3) sc_House_copies.nd rfl (Or.inl rfl))) (fun _ _ _ _ _ => pts_nil) (fun _ _ _ _ _ => (pe_op op_mul (pv 2) (pe_callTy call_int1 rfl T.b_int (by decide +kernel) (pa_cons (pe_cmpR op_eq (pv 3) (pv 1) (nomark _)) pa_nil))))))), fun x F vs Q sF av pr k => ?_⟩
    obtain ⟨a, st, j, n⟩ := x
    obtain ⟨u, uj, un, rfl, p0, p1, p2⟩ := av.three
    obtain rfl : u = .ref a := p0
    obtain ⟨hA, wf, _⟩ := pr
    refine s_retk sF k ?_
    refine ev_lcA (fun i : Nat => if i = j then n else 0) (by rw [List.length_range]; exact hA.tlen) (ei_range hA.tlen (ea_cons (ev_len (ea_cons (ev_tot T hA (ev_var rfl zAt_rfl)) ea_nil)) ea_nil)) fun i hi y F1 R1 s1 s2 s3 g => ⟨_, b_name, rfl, ?_⟩
    refine Ev.int (mul_ite n i j) (ev_mul (.inr (by split <;> decide)) (ev_var rfl p2) (ev_intB (ea_cons (Ev.bl (nat_eq i j) (ev_eqI (ev_var rfl g) (ev_var rfl p1))) ea_nil)))
def sp_House_is_safe_with (K : PySem.W.Frag) (A : Adr) : Sp := hSp A (α := Nat × Nat) (fun x => [zN x.2.2.1, zN x.2.2.2]) (fun _ => True) (fun x => zB (safeWith x.2.1 x.2.2.1 x.2.2.2))
theorem ok_House_is_safe_with (T : Txt K mg A) : MF P w K mg base CX0 6 A.H "is_safe_with" ["self", "j", "many"] (sp_House_is_safe_with K A) :=
  T.f_House_is_safe_with.mf fun f fd Fn => body_ok Fn sc_House_is_safe_with (fun _ => rfl) fun cdv B0 outer s H E hr => by
    refine ⟨_, (pss_one (ps_ret (pe_callF (ok_is_safe_ends T) (hr.mono (by decide)) pass0 (pa_cons (pe_fld (pv 0) rfl) (pa_cons (pe_callF (ok_more T) (hr.mono (by decide)) pass0 (pa_cons (pe_methF0 (ok_House_free T) (hr.mono (by decide)) pass0 (pv 0)) (pa_cons (pe_methF (ok_House_copies T) (hr.mono (by decide)) pass0 (pv 0) (pa_cons (pv 1) (pa_cons (pv 2) pa_nil))) pa_nil))) pa_nil))))), fun x F vs Q sF av pr k => ?_⟩
    obtain ⟨a, st, j, n⟩ := x
    obtain ⟨u, uj, un, rfl, p0, p1, p2⟩ := av.three
    obtain rfl : u = .ref a := p0
    obtain ⟨hA, wf, _⟩ := pr
    refine s_retk sF k ?_
    exact ev_call (st.batches, Vbwbad.plus (Vbwbad.free st) (Vbwbad.unit st j n)) pr0 (ea_cons (ev_bts T hA (ev_var rfl zAt_rfl)) (ea_cons (ev_call (Vbwbad.free st, Vbwbad.unit st j n) pr0 (ea_cons (ev_free hA wf (ev_var rfl zAt_rfl))
      (ea_cons (ev_hm (res := fun x : Addr × S × Nat × Nat => zV (Vbwbad.unit x.2.1 x.2.2.1 x.2.2.2)) (j, n) hA wf trivial (by decide +kernel) (ev_var rfl zAt_rfl) (ea_cons (ev_var rfl p1) (ea_cons (ev_var rfl p2) ea_nil))) ea_nil))) ea_nil))
def zON (o : Option Nat) : Rp := match o with
  | none => zNo
  | some n => zN n
instance {o : Option Nat} : MS (zON o) := ⟨fun {F F' v} s p => by
  cases o with
  | none => exact p
  | some x => exact p⟩
theorem half (a b : Nat) : ((a : Int) + (b : Int)) / 2 = ((a + b) / 2 : Nat) := by omega
theorem half1 (a b : Nat) : ((a : Int) + (b : Int) + 1) / 2 = ((a + b + 1) / 2 : Nat) := by omega
theorem lt_nat (a b : Nat) : decide ((a : Int) < (b : Int)) = decide (a < b) := decide_eq_decide.mpr Int.ofNat_lt
def sp_House_room (K : PySem.W.Frag) (A : Adr) : Sp := hSp A (α := B × Nat) (fun x => [zBat A x.2.2.1, zN x.2.2.2]) (fun x => x.2.2.2 < x.2.1.totals.length) (fun x => zN (roomP x.2.1 x.2.2.1 x.2.2.2))
theorem ok_House_room (T : Txt K mg A) : MF P w K mg base CX0 7 A.H "room" ["self", "batch", "j"] (sp_House_room K A) :=
  T.f_House_room.mf fun f fd Fn => body_ok Fn sc_House_room (fun _ => rfl) fun cdv B0 outer s H E hr => by
    refine ⟨_, (pss_cons (ps_set (i := 3) sc_House_room.nd rfl (Or.inl rfl) pe_int)
      (pss_cons (ps_set (i := 4) sc_House_room.nd rfl (Or.inl rfl) (pe_ix ix_list (pe_methF0 (ok_House_free T) (hr.mono (by decide)) pass0 (pv 0)) (pv 2) (fun _ _ => rfl)))
      (pss_cons (ps_while PassesOwn.never (pt_cmpR op_lt (pv 3) (pv 4) (nomark _))
      (pss_cons (ps_set (i := 5) sc_House_room.nd rfl (Or.inl rfl) (pe_op op_fdiv (pe_op op_add (pe_op op_add (pv 3) (pv 4)) pe_int) pe_int))
      (pss_one (ps_if (pt_val (pe_methF (ok_House_can_grant T) (hr.mono (by decide)) pass0 (pv 0) (pa_cons (pv 1) (pa_cons (pe_methF (ok_House_copies T) (hr.mono (by decide)) pass0 (pv 0) (pa_cons (pv 2) (pa_cons (pv 5) pa_nil))) pa_nil))))
      (pss_one (ps_set (i := 3) sc_House_room.nd rfl (Or.inl rfl) (pv 5)))
      (pss_one (ps_set (i := 4) sc_House_room.nd rfl (Or.inl rfl) (pe_op op_sub (pv 5) pe_int)))))))
      (pss_one (ps_ret (pv 3)))))), fun x F vs Q sF av pr k => ?_⟩
    obtain ⟨a, st, b, j⟩ := x
    obtain ⟨u, ub, uj, rfl, p0, p1, p2⟩ := av.three
    obtain rfl : u = .ref a := p0
    obtain ⟨hA, wf, hj⟩ := pr
    have hj : j < st.totals.length := hj
    have hfl := free_len wf.len
    refine q_asg sF (P := zN 0) ev_int fun u3 H1 F1 u1 p3 => ?_
    have hA1 := hA.fut u1
    have hget : (Vbwbad.free st)[j]? = some ((Vbwbad.free st).getD j 0) := by
      rw [List.getD_eq_getElem?_getD, List.getElem?_eq_getElem (show j < (Vbwbad.free st).length from by rw [hfl]; exact hj)]
      rfl
    refine q_asg u1.fh (ev_ix (f := zN) hget rfl (ev_free hA1 wf (ev_var rfl zAt_rfl)) (ev_var rfl (up u1.ff p2))) fun u4 H2 F2 u2 p4 => ?_
    have p4' : zN ((Vbwbad.free st).getD j 0) u4 F2 := p4
    refine q_while (m0 := (Vbwbad.free st).getD j 0) (fun m σ F' H' => ∃ (lo hi : Nat) (ul uh : V) (x' : Option V), m = hi - lo ∧ σ = [some (.ref a), some ub, some uj, some ul, some uh, x'] ∧ Fut F F' H H' ∧ zN lo ul F' ∧ zN hi uh F' ∧ lo ≤ hi ∧ hi ≤ (Vbwbad.free st).getD j 0 ∧ roomP st b j = upS (fun n => canGrantP st b (Vbwbad.unit st j n)) lo hi)
      ⟨0, (Vbwbad.free st).getD j 0, u3, u4, none, rfl, rfl, u1.trans u2, up u2.ff p3, p4', Nat.zero_le _, Nat.le_refl _, rfl⟩ ?_
    rintro m σ F' H' ⟨lo, hi, ul, uh, x', rfl, rfl, fu, pl, ph, hle, hmx, he⟩
    refine ⟨fu.fh, _, et_test (Ev.bl (lt_nat lo hi) (ev_lt (ev_var rfl pl) (ev_var rfl ph))), fun hb H3 u3 => ?_, fun hb H3 u3 => ?_⟩
    · have hlt : lo < hi := of_decide_eq_true hb
      have fu3 := fu.trans u3
      refine q_asg u3.fh (Ev.int (half1 lo hi) (ev_div ⟨by decide, by decide⟩ (ev_add (ev_add (ev_var rfl pl) (ev_var rfl ph)) ev_int) ev_int)) fun um H4 F4 u4 pm => ?_
      have fu4 := fu3.trans u4
      have hA4 := hA.fut fu4
      rw [upS_go hlt] at he
      refine s_if u4.fh (et_B (ev_hm (res := fun x : Addr × S × B × Vec => zB (canGrantP x.2.1 x.2.2.1 x.2.2.2)) (b, Vbwbad.unit st j ((lo + hi + 1) / 2)) hA4 wf trivial (by decide +kernel) (ev_var rfl zAt_rfl) (ea_cons (ev_var rfl (up fu4.ff p1))
        (ea_cons (ev_hm (res := fun x : Addr × S × Nat × Nat => zV (Vbwbad.unit x.2.1 x.2.2.1 x.2.2.2)) (j, (lo + hi + 1) / 2) hA4 wf trivial (by decide +kernel) (ev_var rfl zAt_rfl) (ea_cons (ev_var rfl (up fu4.ff p2)) (ea_cons (ev_var rfl pm) ea_nil))) ea_nil)))) (fun hc H5 u5 => ?_) fun hc H5 u5 => ?_
      · rw [if_pos hc] at he
        refine s_asg u5.fh (ev_var rfl pm) fun v6 H6 F6 u6 p6 => ⟨hi - (lo + hi + 1) / 2, F6, by omega, (lo + hi + 1) / 2, hi, v6, uh, some um, rfl, rfl, (fu4.trans u5).trans u6, p6, up (u4.ff.trans u6.ff) ph, by omega, hmx, he⟩
      · rw [if_neg (show ¬ (_ = true) from by rw [hc]; exact Bool.false_ne_true)] at he
        have e1 : (((lo + hi + 1) / 2 : Nat) : Int) - 1 = (((lo + hi + 1) / 2 - 1 : Nat) : Int) := by omega
        refine s_asg u5.fh (Ev.int e1 (ev_sub (ev_var rfl pm) ev_int)) fun v6 H6 F6 u6 p6 => ⟨(lo + hi + 1) / 2 - 1 - lo, F6, by omega, lo, (lo + hi + 1) / 2 - 1, ul, v6, some um, rfl, rfl, (fu4.trans u5).trans u6, up (u4.ff.trans u6.ff) pl, p6, by omega, by omega, he⟩
    · have hge : hi ≤ lo := Nat.le_of_not_lt (of_decide_eq_false hb)
      rw [upS_stop hge] at he
      refine s_retk u3.fh (fun v H4 F4 f4 => k v H4 F4 ((fu.trans u3).trans f4)) ?_
      show Ev _ _ F' H3 (zN (roomP st b j))
      rw [he]
      exact ev_var rfl pl
def sp_House_lack (K : PySem.W.Frag) (A : Adr) : Sp := hSp A (α := Nat) (fun x => [zN x.2.2]) (fun _ => True) (fun x => zON (lackP x.2.1 x.2.2))
theorem ok_House_lack (T : Txt K mg A) : MF P w K mg base CX0 7 A.H "lack" ["self", "j"] (sp_House_lack K A) :=
  T.f_House_lack.mf fun f fd Fn => body_ok Fn sc_House_lack (fun _ => rfl) fun cdv B0 outer s H E hr => by
    refine ⟨_, (pss_cons (ps_set (i := 2) sc_House_lack.nd rfl (Or.inl rfl) pe_int)
      (pss_cons (ps_set (i := 3) sc_House_lack.nd rfl (Or.inl rfl) (pe_glob (v := .int (10000000000)) rfl T.c_MOST_MORE ⟨_, rfl⟩))
      (pss_cons (ps_if (pt_not (pt_val (pe_methF (ok_House_is_safe_with T) (hr.mono (by decide)) pass0 (pv 0) (pa_cons (pv 1) (pa_cons (pv 3) pa_nil)))))
      (pss_one (ps_ret pe_non))
      pss_nil)
      (pss_cons (ps_while PassesOwn.never (pt_cmpR op_lt (pv 2) (pv 3) (nomark _))
      (pss_cons (ps_set (i := 4) sc_House_lack.nd rfl (Or.inl rfl) (pe_op op_fdiv (pe_op op_add (pv 2) (pv 3)) pe_int))
      (pss_one (ps_if (pt_val (pe_methF (ok_House_is_safe_with T) (hr.mono (by decide)) pass0 (pv 0) (pa_cons (pv 1) (pa_cons (pv 4) pa_nil))))
      (pss_one (ps_set (i := 3) sc_House_lack.nd rfl (Or.inl rfl) (pv 4)))
      (pss_one (ps_set (i := 2) sc_House_lack.nd rfl (Or.inl rfl) (pe_op op_add (pv 4) pe_int)))))))
      (pss_one (ps_ret (pv 2))))))), fun x F vs Q sF av pr k => ?_⟩
    obtain ⟨a, st, j⟩ := x
    obtain ⟨u, uj, rfl, p0, p1⟩ := av.two
    obtain rfl : u = .ref a := p0
    obtain ⟨hA, wf, _⟩ := pr
    refine q_asg sF (P := zN 0) ev_int fun u3 H1 F1 u1 p3 => ?_
    refine q_asg u1.fh (P := zN 10000000000) (ev_c rfl) fun u4 H2 F2 u2 p4 => ?_
    have hA2 := (hA.fut u1).fut u2
    have f2 := u1.trans u2
    refine q_when u2.fh (et_not (et_B (ev_hm (res := fun x : Addr × S × Nat × Nat => zB (safeWith x.2.1 x.2.2.1 x.2.2.2)) (j, 10000000000) hA2 wf trivial (by decide +kernel) (ev_var rfl zAt_rfl) (ea_cons (ev_var rfl (up f2.ff p1)) (ea_cons (ev_var rfl p4) ea_nil))))) (fun hc H3 u3 => ?_) fun hc H3 u3 => ?_
    · refine s_retk u3.fh (fun v H4 F4 f4 => k v H4 F4 ((f2.trans u3).trans f4)) ?_
      have e : lackP st j = none := by
        unfold lackP
        rw [if_neg (by simpa using hc)]
      show Ev _ _ F2 H3 (zON (lackP st j))
      rw [e]
      exact ev_non
    · have e : lackP st j = some (dnS (safeWith st j) 0 10000000000) := by
        unfold lackP
        rw [if_pos (by simpa using hc)]
      refine q_while (m0 := 10000000000) (fun m σ F' H' => ∃ (lo hi : Nat) (ul uh : V) (x' : Option V), m = hi - lo ∧ σ = [some (.ref a), some uj, some ul, some uh, x'] ∧ Fut F F' H H' ∧ zN lo ul F' ∧ zN hi uh F' ∧ lo ≤ hi ∧ lackP st j = some (dnS (safeWith st j) lo hi))
        ⟨0, 10000000000, _, u4, none, rfl, rfl, f2.trans u3, up u2.ff p3, p4, by omega, e⟩ ?_
      rintro m σ F' H' ⟨lo, hi, ul, uh, x', rfl, rfl, fu, pl, ph, hle, he⟩
      refine ⟨fu.fh, _, et_test (Ev.bl (lt_nat lo hi) (ev_lt (ev_var rfl pl) (ev_var rfl ph))), fun hb H3 u3 => ?_, fun hb H3 u3 => ?_⟩
      · have hlt : lo < hi := of_decide_eq_true hb
        have fu3 := fu.trans u3
        refine q_asg u3.fh (Ev.int (half lo hi) (ev_div ⟨by decide, by decide⟩ (ev_add (ev_var rfl pl) (ev_var rfl ph)) ev_int)) fun um H4 F4 u4 pm => ?_
        have fu4 := fu3.trans u4
        have hA4 := hA.fut fu4
        rw [dnS_go hlt] at he
        refine s_if u4.fh (et_B (ev_hm (res := fun x : Addr × S × Nat × Nat => zB (safeWith x.2.1 x.2.2.1 x.2.2.2)) (j, (lo + hi) / 2) hA4 wf trivial (by decide +kernel) (ev_var rfl zAt_rfl) (ea_cons (ev_var rfl (up fu4.ff p1)) (ea_cons (ev_var rfl pm) ea_nil)))) (fun hc H5 u5 => ?_) fun hc H5 u5 => ?_
        · rw [if_pos hc] at he
          refine s_asg u5.fh (ev_var rfl pm) fun v6 H6 F6 u6 p6 => ⟨(lo + hi) / 2 - lo, F6, by omega, lo, (lo + hi) / 2, ul, v6, some um, rfl, rfl, (fu4.trans u5).trans u6, up (u4.ff.trans u6.ff) pl, p6, by omega, he⟩
        · rw [if_neg (show ¬ (_ = true) from by rw [hc]; exact Bool.false_ne_true)] at he
          refine s_asg u5.fh (Ev.int (Int.natCast_add _ 1).symm (ev_add (ev_var rfl pm) ev_int)) fun v6 H6 F6 u6 p6 => ⟨hi - ((lo + hi) / 2 + 1), F6, by omega, (lo + hi) / 2 + 1, hi, v6, uh, some um, rfl, rfl, (fu4.trans u5).trans u6, p6, up (u4.ff.trans u6.ff) ph, by omega, he⟩
      · have hge : hi ≤ lo := Nat.le_of_not_lt (of_decide_eq_false hb)
        rw [dnS_stop hge] at he
        refine s_retk u3.fh (fun v H4 F4 f4 => k v H4 F4 ((fu.trans u3).trans f4)) ?_
        show Ev _ _ F' H3 (zON (lackP st j))
        rw [he]
        exact ev_var rfl pl
end
end G
end

section
set_option Elab.async false
set_option linter.all false
set_option maxRecDepth 100000
set_option maxHeartbeats 4000000
namespace G
open PySem PySem.Spec PyProof.Rows L2
/-! ### data that is sorted -/
def encP (x : Nat × Nat) : PyData := .tuple [.int x.1, .int x.2]
def encC (x : Nat × List Nat) : PyData := .tuple [.int x.1, .list ((x.2.map fun n : Nat => (n : Int)).map .int)]
section
variable {K : PySem.W.Frag}
abbrev zP (x : Nat × Nat) : Rp := zT [zN x.1, zN x.2]
abbrev zC (x : Nat × List Nat) : Rp := zT [zN x.1, zL zN x.2]
theorem dp_int {H : Hp} {n : Nat} {u : V} {F : Hp} (h : zN n u F) : Dp K H u (.int (n : Int)) := by
  rw [show u = .int (n : Int) from h]
  exact .int _
theorem dp_ints {H : Hp} : ∀ l : List Nat, DpAll K H (l.map fun n : Nat => V.int (n : Int)) ((l.map fun n : Nat => (n : Int)).map .int)
  | [] => .nil
  | n :: l => .cons (.int _) (dp_ints l)
theorem dp_list {H F : Hp} {l : List Nat} {u : V} (h : zL zN l u F) (s : Same F H) : Dp K H u (.list ((l.map fun n : Nat => (n : Int)).map .int)) := by
  obtain ⟨p, us, rfl, hp, lp, zp, pp⟩ := zL_at h
  rw [paired_nats pp] at hp
  exact .lst (SqL.of (s _ _ hp)) (dp_ints l)
theorem dp_P (x : Nat × Nat) (u : V) (F : Hp) (h : zP x u F) (H : Hp) (s : Same F H) : Dp K H u (encP x) := by
  obtain ⟨p, us, rfl, hp, q⟩ := h
  obtain ⟨a, b, rfl, q1, q2⟩ := q.two
  exact .tup (SqT.of (s _ _ hp)) (.cons (dp_int q1) (.cons (dp_int q2) .nil))
theorem dp_C (x : Nat × List Nat) (u : V) (F : Hp) (h : zC x u F) (H : Hp) (s : Same F H) : Dp K H u (encC x) := by
  obtain ⟨p, us, rfl, hp, q⟩ := h
  obtain ⟨a, b, rfl, q1, q2⟩ := q.two
  exact .tup (SqT.of (s _ _ hp)) (.cons (dp_int q1) (.cons (dp_list q2 s) .nil))
theorem al_P (l : List (Nat × Nat)) : PySem.W.AllAlike (l.map encP) := PySem.W.AllAlike.of fun b b' => by simp [encP, PySem.W.alike, PySem.W.alikeAll]
theorem al_C (l : List (Nat × List Nat)) : PySem.W.AllAlike (l.map encC) := PySem.W.AllAlike.of fun b b' => by
  simp only [encC, PySem.W.alike, PySem.W.alikeAll, Bool.true_and, Bool.and_true]
  exact PySem.W.alike_ints _ _
theorem so_P (l : List (Nat × Nat)) : PySem.W.Sortable (l.map encP) := PySem.W.Sortable.tuples fun b => ⟨_, _, rfl⟩
theorem so_C (l : List (Nat × List Nat)) : PySem.W.Sortable (l.map encC) := PySem.W.Sortable.tuples fun b => ⟨_, _, rfl⟩
theorem de_P (x : Nat × Nat) : (encP x).depth ≤ 10 := by simp [encP, PyData.depth, PyData.depthAll]
theorem de_C (x : Nat × List Nat) : (encC x).depth ≤ 10 := by
  have := PySem.W.depth_ints (x.2.map fun n : Nat => (n : Int))
  unfold encC
  rw [PyData.depth, PyData.depthAll, PyData.depthAll, PyData.depthAll, PyData.depth, PyData.depth, this]
  decide
end
theorem le_P : PySem.W.dataLe false encP = fun p q : Nat × Nat => decide (p.1 < q.1 ∨ (p.1 = q.1 ∧ p.2 ≤ q.2)) := by
  have := PySem.W.dataLe_ii (β := Nat × Nat) (fun x => (x.1 : Int)) (fun x => (x.2 : Int))
  unfold encP
  rw [this]
  funext p q
  apply decide_eq_decide.mpr
  omega
theorem ofNat_lt : ∀ xs ys : List Nat, (xs.map fun n : Nat => (n : Int)) < (ys.map fun n : Nat => (n : Int)) ↔ xs < ys
  | [], [] => by simp
  | [], y :: ys => by simp
  | x :: xs, [] => by simp
  | x :: xs, y :: ys => by
    rw [List.map_cons, List.map_cons, List.cons_lt_cons_iff, List.cons_lt_cons_iff, ofNat_lt xs ys]
    constructor <;> (rintro (h | ⟨h1, h2⟩); exact .inl (by omega); exact .inr ⟨by omega, h2⟩)
theorem eqv_ints : ∀ xs ys : List Nat, PyData.eqvAll ((xs.map fun n : Nat => (n : Int)).map .int) ((ys.map fun n : Nat => (n : Int)).map .int) = decide (xs = ys)
  | [], [] => by simp [PyData.eqvAll]
  | [], y :: ys => by simp [PyData.eqvAll]
  | x :: xs, [] => by simp [PyData.eqvAll]
  | x :: xs, y :: ys => by
    show (PyData.eqv (.int (x : Int)) (.int (y : Int)) && PyData.eqvAll _ _) = _
    rw [eqv_ints xs ys]
    simp only [PyData.eqv]
    rw [Bool.beq_eq_decide_eq, ← Bool.decide_and]
    apply decide_eq_decide.mpr
    rw [Int.ofNat_inj, List.cons.injEq]
theorem lt_C (p q : Nat × List Nat) : PySem.W.dataLt (encC p) (encC q) = decide (p.1 < q.1 ∨ (p.1 = q.1 ∧ p.2 < q.2)) := by
  have e3 : PySem.W.dataLt (.list ((p.2.map fun n : Nat => (n : Int)).map .int)) (.list ((q.2.map fun n : Nat => (n : Int)).map .int)) = decide (p.2 < q.2) := by
    have h := PySem.W.dataLe_rows (β := List Nat) fun x => x.map fun n : Nat => (n : Int)
    have h2 := congrFun (congrFun h q.2) p.2
    have h3 : (!PySem.W.dataLt (.list ((p.2.map fun n : Nat => (n : Int)).map .int)) (.list ((q.2.map fun n : Nat => (n : Int)).map .int))) = decide ((q.2.map fun n : Nat => (n : Int)) ≤ (p.2.map fun n : Nat => (n : Int))) := h2
    have h4 : decide ((q.2.map fun n : Nat => (n : Int)) ≤ (p.2.map fun n : Nat => (n : Int))) = !decide (p.2 < q.2) := by
      rw [← decide_not]
      apply decide_eq_decide.mpr
      show ¬ _ ↔ _
      rw [ofNat_lt]
    rw [h4] at h3
    exact Bool.not_inj h3
  unfold encC
  rw [PySem.W.dataLt_pair (by simp [PySem.W.alike]) (by rw [PySem.W.alike]; exact PySem.W.alike_ints _ _), e3, PySem.W.dataLt_int]
  have e5 : PyData.eqv (.int (p.1 : Int)) (.int (q.1 : Int)) = decide (p.1 = q.1) := by
    simp only [PyData.eqv]
    rw [Bool.beq_eq_decide_eq]
    exact decide_eq_decide.mpr Int.ofNat_inj
  rw [e5]
  by_cases h1 : p.1 = q.1
  · rw [if_pos (by simp [h1])]
    by_cases h2 : PyData.eqv (.list ((p.2.map fun n : Nat => (n : Int)).map .int)) (.list ((q.2.map fun n : Nat => (n : Int)).map .int)) = true
    · rw [if_pos h2]
      have h3 : PyData.eqvAll ((p.2.map fun n : Nat => (n : Int)).map .int) ((q.2.map fun n : Nat => (n : Int)).map .int) = true := by
        simpa only [PyData.eqv] using h2
      rw [eqv_ints, decide_eq_true_eq] at h3
      have : ¬ p.2 < q.2 := by
        rw [h3]
        exact List.lt_irrefl _
      simp [h1, this]
    · rw [if_neg h2]
      simp [h1]
  · rw [if_neg (by simp [h1])]
    simp [h1]
theorem le_C : PySem.W.dataLe false encC = fun p q : Nat × List Nat => decide (p.1 < q.1 ∨ (p.1 = q.1 ∧ p.2 ≤ q.2)) := by
  funext p q
  show (!PySem.W.dataLt (encC q) (encC p)) = _
  rw [lt_C, ← decide_not]
  apply decide_eq_decide.mpr
  constructor
  · intro h
    by_cases h1 : p.1 < q.1
    · exact .inl h1
    · by_cases h2 : p.1 = q.1
      · exact .inr ⟨h2, fun h3 => h (.inr ⟨h2.symm, h3⟩)⟩
      · exact absurd (.inl (by omega)) h
  · rintro (h | ⟨h1, h2⟩) (h3 | ⟨h3, h4⟩)
    · omega
    · omega
    · omega
    · exact h2 h4
/-- the choices, sorted as the program does -/
theorem choices_sorted {l : List Nat} (h : Ris l) : (((subs l).map fun x => (x.length, x)).mergeSort (PySem.W.dataLe false encC)).map (fun x => x.2) = allP l := by
  rw [le_C]
  refine List.Perm.eq_of_pairwise (le := fun a b => lenLe a b = true) (fun a b _ _ => lenLe_antisymm) ?_ (allP_sorted h) ?_
  · rw [List.pairwise_map]
    have hp := List.pairwise_mergeSort (le := fun p q : Nat × List Nat => decide (p.1 < q.1 ∨ (p.1 = q.1 ∧ p.2 ≤ q.2))) (fun a b c h1 h2 => by
      rw [decide_eq_true_eq] at *
      rcases h1 with h1 | ⟨e1, h1⟩ <;> rcases h2 with h2 | ⟨e2, h2⟩
      · exact .inl (by omega)
      · exact .inl (by omega)
      · exact .inl (by omega)
      · exact .inr ⟨by omega, List.le_trans h1 h2⟩) (fun a b => by
      rw [Bool.or_eq_true, decide_eq_true_eq, decide_eq_true_eq]
      by_cases q : a.1 < b.1
      · exact .inl (.inl q)
      · by_cases q2 : b.1 < a.1
        · exact .inr (.inl q2)
        · rcases List.le_total a.2 b.2 with z | z
          · exact .inl (.inr ⟨by omega, z⟩)
          · exact .inr (.inr ⟨by omega, z⟩)) ((subs l).map fun x => (x.length, x))
    refine List.Pairwise.imp_of_mem ?_ hp
    intro a b ha hb q
    have fa : a.1 = a.2.length := by
      obtain ⟨x, _, rfl⟩ := List.mem_map.mp ((List.mergeSort_perm _ _).mem_iff.mp ha)
      rfl
    have fb : b.1 = b.2.length := by
      obtain ⟨x, _, rfl⟩ := List.mem_map.mp ((List.mergeSort_perm _ _).mem_iff.mp hb)
      rfl
    unfold lenLe
    rw [← fa, ← fb]
    exact q
  · refine ((List.mergeSort_perm _ _).map _).trans ?_
    rw [List.map_map]
    have : (subs l).map ((fun x : Nat × List Nat => x.2) ∘ fun x => (x.length, x)) = subs l := by
      conv => rhs; rw [← List.map_id (subs l)]
      rfl
    rw [this]
    exact subs_perm l
end G
end

section
set_option Elab.async false
set_option linter.all false
set_option maxRecDepth 100000
set_option maxHeartbeats 4000000
namespace G
open PySem PySem.Spec PyProof.Rows L2
section
variable {P : Program} {w : World} {K : PySem.W.Frag} {mg : Str → Option Value} {base : Heap} {A : Adr}
def sp_House_waiting (K : PySem.W.Frag) (A : Adr) : Sp := hSp A (α := Unit) (fun _ => []) (fun _ => True) (fun x => zL zN (Vbwbad.ids (Vbwbad.waiting x.2.1)))
theorem zW_none {A : Adr} {o : Option (Nat × Vec)} {v : V} {F : Hp} (p : zWant A o v F) : decide (v = .non) = o.isNone := by
  cases o with
  | none =>
    rw [show v = .non from p]
    rfl
  | some x =>
    obtain ⟨a, _, _, rfl, _⟩ := p
    rfl
theorem not_isNone {α : Type} (o : Option α) : (!o.isNone) = o.isSome := by cases o <;> rfl
theorem ok_House_waiting (T : Txt K mg A) : MF P w K mg base CX0 1 A.H "waiting" ["self"] (sp_House_waiting K A) :=
  T.f_House_waiting.mf fun f fd Fn => body_ok Fn sc_House_waiting (fun _ => rfl) fun cdv B0 outer s H E hr => by
    refine ⟨_, (pss_cons (ps_setLc (i := 1) (own := [("batch", 2)]) (g := (gName 2)) (tt := (tTest (tOp (fun x y H Q => y = .non ∧ Q (.bl (!decide (x = .non))) H) (tFld K (tVar 2) "request") (tC .non)))) (te := (tTup (tCons (tFld K (tFld K (tVar 2) "request") "number") (tCons (tFld K (tVar 2) "number") tNil)))) rfl sc_House_waiting.nd rfl rfl (sw_true rfl rfl rfl (by decide +kernel)) (pi_list (pe_fld (pv 0) rfl)) (blkOk_by (N := ["self", "some", "batch", "request", "number"]) (sc := defScope s_House_waiting) (own := [("batch", 2)]) (by decide +kernel)) (fun _ _ _ _ _ => (pg_name (i := 2) sc_House_waiting.nd rfl (Or.inl rfl))) (fun _ _ _ _ _ => pts_one (pt_cmpR op_notN (pe_fld (pv 2) rfl) pe_non (nomark _))) (fun _ _ _ _ _ => (pe_tup (pa_cons (pe_fld (pe_fld (pv 2) rfl) rfl) (pa_cons (pe_fld (pv 2) rfl) pa_nil)))))
      (pss_one (ps_ret (pe_lc (own := [("request", 3), ("number", 4)]) (g := (gTup K 2 (gCons (gName 3) (gCons (gName 4) gNil)))) (tt := tYes) (te := (tVar 4)) rfl sc_House_waiting.nd (pi_list (pe_callB (cr_sortD encP hr.units) rfl T.b_sorted (by decide +kernel) (pa_cons (pv 1) pa_nil))) (blkOk_by (N := ["self", "some", "batch", "request", "number"]) (sc := defScope s_House_waiting) (own := [("request", 3), ("number", 4)]) (by decide +kernel)) (fun _ _ _ _ _ => (pg_tup rfl (pgs_cons (pg_name (i := 3) sc_House_waiting.nd rfl (Or.inl rfl)) (pgs_cons (pg_name (i := 4) sc_House_waiting.nd rfl (Or.inl rfl)) pgs_nil)))) (fun _ _ _ _ _ => pts_nil) (fun _ _ _ _ _ => (pv 4)))))), fun x F vs Q sF av pr k => ?_⟩
    obtain ⟨a, st, _⟩ := x
    obtain ⟨u, rfl, p0⟩ := av.one
    obtain rfl : u = .ref a := p0
    obtain ⟨hA, wf, _⟩ := pr
    have wf : WF st := wf
    have e1 := ev_lc (r := zP) (te := tTup (tCons (tFld K (tFld K (tVar 2) "request") "number") (tCons (tFld K (tVar 2) "number") tNil))) (vs := [2]) (tg := gName 2) (tt := tTest (tOp (fun x y H Q => y = .non ∧ Q (.bl (!decide (x = .non))) H) (tFld K (tVar 2) "request") (tC .non))) (σ := [some (.ref a), none, none, none, none]) (F := F) (R := H)
      (fun b : B => b.want.isSome) (fun b : B => (wNo b, b.id)) hA.len (ei_list (K := K) (ev_bts T hA (ev_var (i := 0) rfl zAt_rfl))) fun b hb y F1 R1 s1 s2 s3 g =>
        ⟨_, b_name, rfl, et_test (Ev.bl (not_isNone _) (ev_notN (fun v F' p => zW_none p) (ev_fld hf_request T.c_B T.n_B_request (ev_var rfl g)))), fun hp => by
          obtain ⟨x, hx⟩ := Option.isSome_iff_exists.mp hp
          have er := ev_fld (K := K) (σ := [some (.ref a), none, some y, none, none]) (R := R1) hf_request T.c_B T.n_B_request (ev_var (i := 2) rfl g)
          rw [hx] at er
          have nb : wNo b = x.1 := by simp [wNo, hx]
          refine ev_tup (by simp) (ea_cons ?_ (ea_cons (ev_fld hf_number T.c_B T.n_B_number (ev_var rfl g)) ea_nil))
          rw [nb]
          exact ev_fld (hf_rnumber (A := A) (x := x)) T.c_R T.n_R_number er⟩
    refine q_asg sF e1 fun u1 H1 F1 fu1 p1 => ?_
    have p1 : zL zP (waitIds st) u1 F1 := p1
    have hl : (waitIds st).length ≤ LB := zL_le p1
    refine s_retk fu1.fh (fun v H2 F' fu => k v H2 F' (fu1.trans fu)) ?_
    have e2 := ev_lcA (r := zN) (te := tVar 4) (vs := [3, 4]) (tg := gTup K 2 (gCons (gName 3) (gCons (gName 4) gNil))) (σ := [some (.ref a), some u1, none, none, none]) (F := F1) (R := H1) (fun x : Nat × Nat => x.2) (by rw [List.length_mergeSort]; exact hl)
      (ei_list (K := K) (ev_sortD (K := K) (enc := encP) (dp_P) (al_P _) (so_P _) (fun b _ => de_P b) (ea_cons (ev_var (i := 1) rfl p1) ea_nil))) fun x hx y F2 R2 s1 s2 s3 g => by
        obtain ⟨v, w, q1, q2, b⟩ := b_two s3 g
        exact ⟨_, b, rfl, ev_var rfl q2⟩
    have e3 : ((waitIds st).mergeSort (PySem.W.dataLe false encP)).map (fun x : Nat × Nat => x.2) = Vbwbad.ids (Vbwbad.waiting st) := by
      refine waiting_sort wf _ (List.mergeSort_perm _ _) ?_
      rw [le_P]
      have hp := List.pairwise_mergeSort (le := fun p q : Nat × Nat => decide (p.1 < q.1 ∨ (p.1 = q.1 ∧ p.2 ≤ q.2))) (fun a b c h1 h2 => by
        rw [decide_eq_true_eq] at *
        omega) (fun a b => by
        rw [Bool.or_eq_true, decide_eq_true_eq, decide_eq_true_eq]
        omega) (waitIds st)
      exact hp.imp fun q => of_decide_eq_true q
    show Ev _ _ F1 H1 (zL zN (Vbwbad.ids (Vbwbad.waiting st)))
    rw [← e3]
    exact e2
def sp_House_is_safe_without (K : PySem.W.Frag) (A : Adr) : Sp := hSp A (α := List Nat) (fun x => [zL zN x.2.2]) (fun _ => True) (fun x => zB (safeWo x.2.1 x.2.2))
theorem zN_int {l : List Nat} {v : V} {F : Hp} (h : zL zN l v F) : zL zI (l.map fun n : Nat => (n : Int)) v F := by
  obtain ⟨p, us, e, hp, q, z⟩ := h
  exact ⟨p, us, e, hp, paired_map (f := zI) (fun n : Nat => (n : Int)) q, by rw [List.length_map]; exact z⟩
theorem mem_int (n : Nat) (l : List Nat) : decide ((n : Int) ∈ l.map fun n : Nat => (n : Int)) = l.contains n := by
  rw [Bool.eq_iff_iff, decide_eq_true_eq, List.contains_iff_mem, List.mem_map]
  constructor
  · rintro ⟨a, h, e⟩
    rw [← Int.ofNat_inj.mp e]
    exact h
  · intro h
    exact ⟨n, h, rfl⟩
theorem ok_House_is_safe_without (T : Txt K mg A) : MF P w K mg base CX0 6 A.H "is_safe_without" ["self", "gone"] (sp_House_is_safe_without K A) :=
  T.f_House_is_safe_without.mf fun f fd Fn => body_ok Fn sc_House_is_safe_without (fun _ => rfl) fun cdv B0 outer s H E hr => by
    refine ⟨_, (pss_cons (ps_setLc (i := 2) (own := [("batch", 3)]) (g := (gName 3)) (tt := (tTest (tOp (rIn K false) (tFld K (tVar 3) "number") (tVar 1)))) (te := (tVar 3)) rfl sc_House_is_safe_without.nd rfl rfl (sw_true rfl rfl rfl (by decide +kernel)) (pi_list (pe_fld (pv 0) rfl)) (blkOk_by (N := ["self", "gone", "out", "batch", "left"]) (sc := defScope s_House_is_safe_without) (own := [("batch", 3)]) (by decide +kernel)) (fun _ _ _ _ _ => (pg_name (i := 3) sc_House_is_safe_without.nd rfl (Or.inl rfl))) (fun _ _ _ _ _ => pts_one (pt_cmpR op_in_seq (pe_fld (pv 3) rfl) (pv 1) (by rfl))) (fun _ _ _ _ _ => (pv 3)))
      (pss_cons (ps_setLc (i := 4) (own := [("batch", 3)]) (g := (gName 3)) (tt := (tTest (tOp (rIn K true) (tFld K (tVar 3) "number") (tVar 1)))) (te := (tVar 3)) rfl sc_House_is_safe_without.nd rfl rfl (sw_true rfl rfl rfl (by decide +kernel)) (pi_list (pe_fld (pv 0) rfl)) (blkOk_by (N := ["self", "gone", "out", "batch", "left"]) (sc := defScope s_House_is_safe_without) (own := [("batch", 3)]) (by decide +kernel)) (fun _ _ _ _ _ => (pg_name (i := 3) sc_House_is_safe_without.nd rfl (Or.inl rfl))) (fun _ _ _ _ _ => pts_one (pt_cmpR op_notIn_seq (pe_fld (pv 3) rfl) (pv 1) (by rfl))) (fun _ _ _ _ _ => (pv 3)))
      (pss_one (ps_ret (pe_callF (ok_is_safe_ends T) (hr.mono (by decide)) pass0 (pa_cons (pv 4) (pa_cons (pe_callF (ok_given_back T) (hr.mono (by decide)) pass0 (pa_cons (pe_methF0 (ok_House_free T) (hr.mono (by decide)) pass0 (pv 0)) (pa_cons (pv 2) pa_nil))) pa_nil))))))), fun x F vs Q sF av pr k => ?_⟩
    obtain ⟨a, st, gone⟩ := x
    obtain ⟨u, ug, rfl, p0, p1⟩ := av.two
    obtain rfl : u = .ref a := p0
    obtain ⟨hA, wf, _⟩ := pr
    have cmp : ∀ (neg : Bool) (x3 x4 : Option V) (F H : Hp), HouseAt A a st F H → zL zN gone ug F → Ev (tLc (iList K (tFld K (tVar 0) "batches")) (gName 3) (tTest (tOp (rIn K neg) (tFld K (tVar 3) "number") (tVar 1))) (tVar 3) [3]) [some (.ref a), some ug, x3, none, x4] F H (zBs A (st.batches.filter fun b => if neg then !gone.contains b.id else gone.contains b.id)) := by
      intro neg x3 x4 F H hA p1
      have := ev_lc (r := zBat A) (te := tVar 3) (vs := [3]) (tg := gName 3) (tt := tTest (tOp (rIn K neg) (tFld K (tVar 3) "number") (tVar 1))) (σ := [some (.ref a), some ug, x3, none, x4]) (F := F) (R := H)
        (fun b : B => if neg then !gone.contains b.id else gone.contains b.id) id hA.len (ei_list (K := K) (ev_bts T hA (ev_var (i := 0) rfl zAt_rfl))) fun b hb y F1 R1 s1 s2 s3 g =>
          ⟨_, b_name, rfl, et_test (Ev.bl (by rw [mem_int]) (ev_in (ev_fld hf_number T.c_B T.n_B_number (ev_var rfl g)) (ev_var rfl (zN_int (up s1 p1))))), fun _ => ev_var rfl g⟩
      rw [List.map_id] at this
      exact this
    refine q_asg sF (cmp false none none F H hA p1) fun u2 H1 F1 fu1 p2 => ?_
    refine q_asg fu1.fh (cmp true (some u2) none F1 H1 (hA.fut fu1) (up fu1.ff p1)) fun u4 H2 F2 fu2 p4 => ?_
    have fu := fu1.trans fu2
    refine s_retk fu2.fh (fun v H2 F' f => k v H2 F' (fu.trans f)) ?_
    exact ev_call (leftOff st.batches gone, givenBack (Vbwbad.free st) (outOf st.batches gone)) pr0 (ea_cons (ev_var rfl p4) (ea_cons (ev_call (Vbwbad.free st, outOf st.batches gone) pr0 (ea_cons (ev_free (hA.fut fu) wf (ev_var rfl zAt_rfl)) (ea_cons (ev_var rfl (up fu2.ff p2)) ea_nil))) ea_nil))
end
end G
end

section
set_option Elab.async false
set_option linter.all false
set_option maxRecDepth 100000
set_option maxHeartbeats 4000000
namespace G
open PySem PySem.Spec PyProof.Rows L2
section
variable {P : Program} {w : World} {K : PySem.W.Frag} {mg : Str → Option Value} {base : Heap} {A : Adr}
def sp_all_choices (K : PySem.W.Frag) (A : Adr) : Sp := FSp (fun x : List Nat => [zL zN x]) (fun x _ _ => Ris x ∧ x.length ≤ 10) (fun x => zL (zL zN) (allP x))
theorem subs_snoc (l : List Nat) (i : Nat) (x : Nat) (h : l.reverse[i]? = some x) : subs ((l.reverse.take (i + 1)).reverse) = (subs ((l.reverse.take i).reverse)).map (fun y => x :: y) ++ subs ((l.reverse.take i).reverse) := by
  rw [take_more h, List.reverse_append]
  rfl
theorem pow_le {n : Nat} (h : n ≤ 10) : 2 ^ n ≤ 1024 := Nat.pow_le_pow_right (by decide) h
theorem subs_small {l : List Nat} (h : l.length ≤ 10) : (subs l).length ≤ 1024 := by
  rw [subs_len]
  exact pow_le h
theorem subs_item {l : List Nat} : ∀ {p : List Nat}, p ∈ subs l → p.length ≤ l.length := by
  induction l with
  | nil =>
    intro p h
    have : p = [] := by simpa [subs] using h
    subst this
    exact Nat.le_refl _
  | cons x r ih =>
    intro p h
    have h : p ∈ (subs r).map (fun l => x :: l) ++ subs r := h
    rw [List.mem_append, List.mem_map] at h
    rcases h with ⟨q, hq, rfl⟩ | h
    · exact Nat.succ_le_succ (ih hq)
    · exact Nat.le_succ_of_le (ih h)
theorem ok_all_choices (T : Txt K mg A) : CF P w K mg base CX0 1 "all_choices" ["things"] (sp_all_choices K A) :=
  T.f_all_choices.cf fun f fd Fn => body_ok Fn sc_all_choices (fun _ => rfl) fun cdv B0 outer s H E hr => by
    refine ⟨_, (pss_cons (ps_set (i := 1) sc_all_choices.nd rfl (Or.inl rfl) (pe_lst (pa_cons (pe_lst pa_nil) pa_nil)))
      (pss_cons (ps_for PassesOwn.never rfl (pi_reversed rfl T.b_reversed (pa_cons (pv 0) pa_nil)) (pg_name (i := 2) sc_all_choices.nd rfl (Or.inr rfl))
      (pss_one (ps_set (i := 1) sc_all_choices.nd rfl (Or.inl rfl) (pe_op op_cat (pe_lc (own := [("one", 3)]) (g := (gName 3)) (tt := tYes) (te := (tOp rCat (tLst (tCons (tVar 2) tNil)) (tVar 3))) rfl sc_all_choices.nd (pi_list (pv 1)) (blkOk_by (N := ["things", "found", "thing", "one", "many"]) (sc := defScope s_all_choices) (own := [("one", 3)]) (by decide +kernel)) (fun _ _ _ _ _ => (pg_name (i := 3) sc_all_choices.nd rfl (Or.inl rfl))) (fun _ _ _ _ _ => pts_nil) (fun _ _ _ _ _ => (pe_op op_cat (pe_lst (pa_cons (pv 2) pa_nil)) (pv 3)))) (pv 1)))))
      (pss_one (ps_ret (pe_lc (own := [("many", 4), ("one", 3)]) (g := (gTup K 2 (gCons (gName 4) (gCons (gName 3) gNil)))) (tt := tYes) (te := (tVar 3)) rfl sc_all_choices.nd (pi_list (pe_callB (cr_sortD encC hr.units) rfl T.b_sorted (by decide +kernel) (pa_cons (pe_lc (own := [("one", 3)]) (g := (gName 3)) (tt := tYes) (te := (tTup (tCons (tCB (fun xs H Q => ∃ p ys, xs = [.ref p] ∧ (SqL K H p ys ∨ SqT K H p ys) ∧ Q (.int ys.length) H) (tCons (tVar 3) tNil)) (tCons (tVar 3) tNil)))) rfl sc_all_choices.nd (pi_list (pv 1)) (blkOk_by (N := ["things", "found", "thing", "one", "many"]) (sc := defScope s_all_choices) (own := [("one", 3)]) (by decide +kernel)) (fun _ _ _ _ _ => (pg_name (i := 3) sc_all_choices.nd rfl (Or.inl rfl))) (fun _ _ _ _ _ => pts_nil) (fun _ _ _ _ _ => (pe_tup (pa_cons (pe_callB call_len_seq rfl T.b_len (by decide +kernel) (pa_cons (pv 3) pa_nil)) (pa_cons (pv 3) pa_nil))))) pa_nil))) (blkOk_by (N := ["things", "found", "thing", "one", "many"]) (sc := defScope s_all_choices) (own := [("many", 4), ("one", 3)]) (by decide +kernel)) (fun _ _ _ _ _ => (pg_tup rfl (pgs_cons (pg_name (i := 4) sc_all_choices.nd rfl (Or.inl rfl)) (pgs_cons (pg_name (i := 3) sc_all_choices.nd rfl (Or.inl rfl)) pgs_nil)))) (fun _ _ _ _ _ => pts_nil) (fun _ _ _ _ _ => (pv 3))))))), fun x F vs Q sF av pr k => ?_⟩
    obtain ⟨u, rfl, p0⟩ := av.one
    obtain ⟨hris, hx⟩ := pr
    refine q_asg sF (ev_lst1 (f := zL zN) (a := []) ev_nil) fun u1 H1 F1 fu1 p1 => ?_
    refine q_for fu1.fh (ei_rev (ea_cons (ev_var rfl (up fu1.ff p0)) ea_nil)) fun H2 F2 fu2 => ⟨fun i σ F' H' => Fut F2 F' H2 H' ∧ ∃ u' x3, σ = [some u, some u', x3, none, none] ∧ zL (zL zN) (subs ((x.reverse.take i).reverse)) u' F',
      ⟨Fut.refl fu2.fh, u1, none, rfl, up fu2.ff p1⟩, fun i σ F' H' q => ⟨q.1.ff, q.1.fh⟩, ?_, ?_⟩
    · rintro i n y σ F' Hc F3 H3 hb ⟨fu3, u', x3, rfl, pu⟩ fx gx
      have hs : (subs ((x.reverse.take i).reverse)).length ≤ 1024 := subs_small (by rw [List.length_reverse, List.length_take]; exact Nat.le_trans (Nat.min_le_right _ _) (by rw [List.length_reverse]; exact hx))
      have hs' : (subs ((x.reverse.take i).reverse)).length ≤ LB := Nat.le_trans hs (by decide)
      have e1 := ev_lcA (r := zL zN) (te := tOp rCat (tLst (tCons (tVar 2) tNil)) (tVar 3)) (vs := [3]) (tg := gName 3) (σ := [some u, some u', some y, none, none]) (F := F3) (R := H3) (fun l : List Nat => n :: l) hs' (ei_list (K := K) (ev_var (i := 1) rfl (up fx.ff pu))) fun l hl z F4 R4 s1 s2 s3 g => by
        refine ⟨_, b_name, rfl, ?_⟩
        have hlen : l.length ≤ 10 := Nat.le_trans (subs_item hl) (by rw [List.length_reverse, List.length_take]; exact Nat.le_trans (Nat.min_le_right _ _) (by rw [List.length_reverse]; exact hx))
        exact ev_cat (l := [n]) (m := l) (by show 1 + l.length ≤ 20000; omega) (ev_lst1 (f := zN) (ev_var rfl (up s1 gx))) (ev_var rfl g)
      refine b_g (s_asg fx.fh (ev_cat (by rw [List.length_map]; show _ ≤ 20000; omega) e1 (ev_var rfl (up fx.ff pu))) fun v4 H4 F4 fu4 p4 => ⟨F4, (fu3.trans fx).trans fu4, v4, some y, rfl, ?_⟩)
      rw [subs_snoc x i n hb]
      exact p4
    · rintro σ F' H' ⟨fu3, u', x3, rfl, pu⟩
      rw [List.take_length, List.reverse_reverse] at pu
      have hs : (subs x).length ≤ 1024 := subs_small hx
      have hs' : (subs x).length ≤ LB := Nat.le_trans hs (by decide)
      refine s_retk fu3.fh (fun v H4 F4 f4 => k v H4 F4 (((fu1.trans fu2).trans fu3).trans f4)) ?_
      have e1 := ev_lcA (r := zC) (te := tTup (tCons (tCB (fun xs H Q => ∃ p ys, xs = [.ref p] ∧ (SqL K H p ys ∨ SqT K H p ys) ∧ Q (.int ys.length) H) (tCons (tVar 3) tNil)) (tCons (tVar 3) tNil))) (vs := [3]) (tg := gName 3) (σ := wipe [some u, some u', x3, none, none] [4, 3]) (F := F') (R := H') (fun l : List Nat => (l.length, l)) hs' (ei_list (K := K) (ev_var (i := 1) rfl pu)) fun l hl z F4 R4 s1 s2 s3 g =>
        ⟨_, b_name, rfl, ev_tup (by simp) (ea_cons (ev_len (K := K) (ea_cons (ev_var rfl g) ea_nil)) (ea_cons (ev_var rfl g) ea_nil))⟩
      have e2 := ev_sortD (K := K) (enc := encC) (dp_C) (al_C _) (so_C _) (fun b _ => de_C b) (ea_cons e1 ea_nil)
      have e3 := ev_lcA (r := zL zN) (te := tVar 3) (vs := [4, 3]) (tg := gTup K 2 (gCons (gName 4) (gCons (gName 3) gNil))) (σ := [some u, some u', x3, none, none]) (F := F') (R := H') (fun x : Nat × List Nat => x.2) (by rw [List.length_mergeSort, List.length_map]; exact hs') (ei_list (K := K) e2) fun x hx y F2 R2 s1 s2 s3 g => by
        obtain ⟨v, w, q1, q2, b⟩ := b_two s3 g
        exact ⟨_, b, rfl, ev_var rfl q2⟩
      show Ev _ _ F' H' (zL (zL zN) (allP x))
      rw [← choices_sorted hris]
      exact e3
def sp_House_all_victims (K : PySem.W.Frag) (A : Adr) : Sp := hSp A (α := Unit) (fun _ => []) (fun _ => True) (fun x => zL (zL zN) (victimsP x.2.1))
theorem allP_len (l : List Nat) : (allP l).length = (subs l).length := (subs_perm l).length_eq.symm
theorem int_nat_list : ∀ {l : List Int}, (∀ x ∈ l, 0 ≤ x) → (l.map Int.toNat).map (fun n : Nat => (n : Int)) = l
  | [], _ => rfl
  | x :: l, h => by
    rw [List.map_cons, List.map_cons, int_nat_list fun y hy => h y (by simp [hy]), Int.toNat_of_nonneg (h x (by simp))]
theorem zI_nat {l : List Nat} {v : V} {F : Hp} (h : zL zI (l.map fun n : Nat => (n : Int)) v F) : zL zN l v F := by
  obtain ⟨p, us, e, hp, q, z⟩ := h
  refine ⟨p, us, e, hp, ?_, by rw [List.length_map] at z; exact z⟩
  clear z hp
  induction l generalizing us with
  | nil =>
    cases q
    exact .nil
  | cons n l ih =>
    cases q with
    | cons a b => exact .cons a (ih _ b)
theorem ok_House_all_victims (T : Txt K mg A) : MF P w K mg base CX0 7 A.H "all_victims" ["self"] (sp_House_all_victims K A) :=
  T.f_House_all_victims.mf fun f fd Fn => body_ok Fn sc_House_all_victims (fun _ => rfl) fun cdv B0 outer s H E hr => by
    refine ⟨_, (pss_one (ps_ret (pe_lc (own := [("gone", 1)]) (g := (gName 1)) (tt := (tB (tMeth A.H "is_safe_without" (sp_House_is_safe_without K A) [] E0 (tVar 0) (tCons (tVar 1) tNil)))) (te := (tVar 1)) rfl sc_House_all_victims.nd (pi_list (pe_callF (ok_all_choices T) (hr.mono (by decide)) pass0 (pa_cons (pe_callB cr_sorted rfl T.b_sorted (by decide +kernel) (pa_cons (pe_callF (ok_numbers_of T) (hr.mono (by decide)) pass0 (pa_cons (pe_fld (pv 0) rfl) pa_nil)) pa_nil)) pa_nil))) (blkOk_by (N := ["self", "gone"]) (sc := defScope s_House_all_victims) (own := [("gone", 1)]) (by decide +kernel)) (fun _ _ _ _ _ => (pg_name (i := 1) sc_House_all_victims.nd rfl (Or.inl rfl))) (fun _ _ _ _ _ => pts_one (pt_val (pe_methF (ok_House_is_safe_without T) (hr.mono (by decide)) pass0 (pv 0) (pa_cons (pv 1) pa_nil)))) (fun _ _ _ _ _ => (pv 1))))), fun x F vs Q sF av pr k => ?_⟩
    obtain ⟨a, st, _⟩ := x
    obtain ⟨u, rfl, p0⟩ := av.one
    obtain rfl : u = .ref a := p0
    obtain ⟨hA, wf, _⟩ := pr
    have hA : HouseAt A a st F H := hA
    have wf : WF st := wf
    refine s_retk sF k ?_
    have hids : (Vbwbad.ids st.batches).length ≤ 10 := by
      unfold Vbwbad.ids
      rw [List.length_map]
      exact wf.few
    have e1 := ev_call (E := E0) (args := fun x : List B => [zBs A x]) (pre := noPre) (res := fun x => zL zN (Vbwbad.ids x)) (σ := [some (.ref a), none]) st.batches pr0 (ea_cons (ev_bts T hA (ev_var (i := 0) rfl zAt_rfl)) ea_nil)
    have e1' : Ev (tCall (sp_numbers_of K A) [] E0 (tCons (tFld K (tVar 0) "batches") tNil)) [some (.ref a), none] F H (zL zI ((Vbwbad.ids st.batches).map fun n : Nat => (n : Int))) := e1.imp fun v F' _ p => zN_int p
    have e2 : Ev (tCB (rSorted K) (tCons (tCall (sp_numbers_of K A) [] E0 (tCons (tFld K (tVar 0) "batches") tNil)) tNil)) [some (.ref a), none] F H (zL zN (Vbwbad.sortedIds st)) := (ev_sorted (by rw [List.length_map]; omega) (ea_cons e1' ea_nil)).imp fun v F' _ p => by
      obtain ⟨l', h1, h2, p⟩ := p
      have hnn : ∀ x ∈ l', 0 ≤ x := fun x hx => by
        obtain ⟨n, _, rfl⟩ := List.mem_map.mp (h1.mem_iff.mp hx)
        exact Int.natCast_nonneg n
      have el := int_nat_list hnn
      have hs : l'.map Int.toNat = Vbwbad.sortedIds st := by
        refine sortedIds_sort _ ?_ ?_
        · rw [List.pairwise_map]
          refine h2.imp_of_mem ?_
          intro x y hx hy q
          have := hnn x hx
          omega
        · have := h1.map Int.toNat
          rw [List.map_map] at this
          have e : (Vbwbad.ids st.batches).map (Int.toNat ∘ fun n : Nat => (n : Int)) = Vbwbad.ids st.batches := by
            conv => rhs; rw [← List.map_id (Vbwbad.ids st.batches)]
            rfl
          rw [e] at this
          exact this
      rw [← hs]
      refine zI_nat ?_
      rw [el]
      exact p
    have hl : (Vbwbad.sortedIds st).length ≤ 10 := by
      rw [sortedIds_len]
      exact wf.few
    have e3 := ev_call (E := E0) (args := fun x : List Nat => [zL zN x]) (pre := fun x _ _ => Ris x ∧ x.length ≤ 10) (res := fun x => zL (zL zN) (allP x)) (Vbwbad.sortedIds st) (fun _ _ _ _ _ _ => ⟨sortedIds_ris wf.uniq, hl⟩) (ea_cons e2 ea_nil)
    have e4 := ev_lcN (r := zL zN) (te := tVar 1) (vs := [1]) (tg := gName 1) (tt := tB (tMeth A.H "is_safe_without" (sp_House_is_safe_without K A) [] E0 (tVar 0) (tCons (tVar 1) tNil))) (σ := [some (.ref a), none]) (fun g : List Nat => safeWo st g) id (by rw [allP_len]; exact Nat.le_trans (subs_small hl) (by decide)) (ei_list (K := K) e3) fun l hl z F4 R4 s1 s2 s3 n g =>
      ⟨_, b_name, rfl, et_B (ev_hm (res := fun x : Addr × S × List Nat => zB (safeWo x.2.1 x.2.2)) l (hA.up s1 s2 n) wf trivial (by decide +kernel) (ev_var rfl zAt_rfl) (ea_cons (ev_var rfl g) ea_nil)), fun _ => ev_var rfl g⟩
    rw [List.map_id] at e4
    exact e4
end
end G
end

section
set_option Elab.async false
set_option linter.all false
set_option maxRecDepth 100000
set_option maxHeartbeats 4000000
namespace G
open PySem PySem.Spec PyProof.Rows L2
section
variable {P : Program} {w : World} {K : PySem.W.Frag} {mg : Str → Option Value} {base : Heap} {A : Adr}
/-- numbers of batches that are there -/
def There (s : S) (l : List Nat) : Prop := ∀ i ∈ l, ∃ b, Vbwbad.batchOf s i = some b
def sp_House_first_that_cannot (K : PySem.W.Frag) (A : Adr) : Sp := hSp A (α := List Nat) (fun x => [zL zN x.2.2]) (fun x => There x.2.1 x.2.2) (fun x => zON (canNot x.2.1 (Vbwbad.free x.2.1) x.2.2))
theorem canNot_cons (s : S) (f : Vec) (i : Nat) (r : List Nat) {b : B} (h : Vbwbad.batchOf s i = some b) : canNot s f (i :: r) = if Vbwbad.canEnd f b = true then canNot s (Vbwbad.plus f b.holds) r else some i := by
  show (match Vbwbad.batchOf s i with
    | none => some i
    | some b => if Vbwbad.canEnd f b = true then canNot s (Vbwbad.plus f b.holds) r else some i) = _
  rw [h]
theorem ok_House_first_that_cannot (T : Txt K mg A) : MF P w K mg base CX0 4 A.H "first_that_cannot" ["self", "numbers"] (sp_House_first_that_cannot K A) :=
  T.f_House_first_that_cannot.mf fun f fd Fn => body_ok Fn sc_House_first_that_cannot (fun _ => rfl) fun cdv B0 outer s H E hr => by
    refine ⟨_, (pss_cons (ps_set (i := 2) sc_House_first_that_cannot.nd rfl (Or.inl rfl) (pe_methF0 (ok_House_free T) (hr.mono (by decide)) pass0 (pv 0)))
      (pss_cons (ps_for PassesOwn.never rfl (pi_list (pv 1)) (pg_name (i := 3) sc_House_first_that_cannot.nd rfl (Or.inl rfl))
      (pss_cons (ps_set (i := 4) sc_House_first_that_cannot.nd rfl (Or.inl rfl) (pe_methF (ok_House_find T) (hr.mono (by decide)) pass0 (pv 0) (pa_cons (pv 3) pa_nil)))
      (pss_cons (ps_if (pt_not (pt_val (pe_methF (ok_Batch_can_end T) (hr.mono (by decide)) pass0 (pv 4) (pa_cons (pv 2) pa_nil))))
      (pss_one (ps_ret (pv 3)))
      pss_nil)
      (pss_one (ps_set (i := 2) sc_House_first_that_cannot.nd rfl (Or.inl rfl) (pe_callF (ok_given_back T) (hr.mono (by decide)) pass0 (pa_cons (pv 2) (pa_cons (pe_lst (pa_cons (pv 4) pa_nil)) pa_nil))))))))
      (pss_one (ps_ret pe_non)))), fun x F vs Q sF av pr k => ?_⟩
    obtain ⟨a, st, l⟩ := x
    obtain ⟨u, ul, rfl, p0, p1⟩ := av.two
    obtain rfl : u = .ref a := p0
    obtain ⟨hA, wf, ht⟩ := pr
    have hA : HouseAt A a st F H := hA
    have wf : WF st := wf
    have ht : There st l := ht
    refine q_asg sF (ev_free hA wf (ev_var rfl zAt_rfl)) fun u2 H1 F1 fu1 p2 => ?_
    refine q_for fu1.fh (ei_list (f := zN) (ev_var rfl (up fu1.ff p1))) fun H2 F2 fu2 => ⟨fun i σ F' H' => Fut F2 F' H2 H' ∧ ∃ u' x3 x4 g, σ = [some (.ref a), some ul, some u', x3, x4] ∧ zV g u' F' ∧ canNot st (Vbwbad.free st) l = canNot st g (l.drop i),
      ⟨Fut.refl fu2.fh, u2, none, none, _, rfl, up fu2.ff p2, by rw [List.drop_zero]⟩, fun i σ F' H' q => ⟨q.1.ff, q.1.fh⟩, ?_, ?_⟩
    · rintro i n y σ F' Hc F3 H3 hb ⟨fu3, u', x3, x4, g, rfl, pg, he⟩ fx gx
      have hmem : n ∈ l := List.mem_of_getElem? hb
      obtain ⟨b, hbo⟩ := ht n hmem
      have hd : l.drop i = n :: l.drop (i + 1) := by
        rw [← List.getElem_cons_drop (List.getElem?_eq_some_iff.mp hb).1, (List.getElem?_eq_some_iff.mp hb).2]
      rw [hd, canNot_cons st g n _ hbo] at he
      have fa := ((fu1.trans fu2).trans fu3).trans fx
      refine b_g (q_asg fx.fh (ev_hm (res := fun x : Addr × S × Nat => zOB A (Vbwbad.batchOf x.2.1 x.2.2)) n (hA.fut fa) wf trivial (by decide +kernel) (ev_var rfl zAt_rfl) (ea_cons (ev_var rfl gx) ea_nil)) fun u4 H4 F4 fu4 p4 => ?_)
      have p4 : zOB A (Vbwbad.batchOf st n) u4 F4 := p4
      rw [hbo] at p4
      have p4 : zBat A b u4 F4 := p4
      refine q_when fu4.fh (et_not (et_B (ev_meth (P := zBat A b) (b, g) (ins_bat (by decide +kernel)) pr0 rfl (ev_var rfl p4) (ea_cons (ev_var rfl (up (fx.ff.trans fu4.ff) pg)) ea_nil)))) (fun hc H5 f5 => ?_) fun hc H5 f5 => ?_
      · refine s_retk f5.fh (fun v H6 F6 f6 => k v H6 F6 ((fa.trans fu4).trans (f5.trans f6))) ?_
        have hc' : ¬ Vbwbad.canEnd g b = true := by simpa using hc
        rw [if_neg hc'] at he
        show Ev _ _ F4 H5 (zON (canNot st (Vbwbad.free st) l))
        rw [he]
        exact ev_var rfl (up fu4.ff gx)
      · have hc' : Vbwbad.canEnd g b = true := by simpa using hc
        rw [if_pos hc'] at he
        refine s_asg f5.fh (ev_call (g, [b]) pr0 (ea_cons (ev_var rfl (up (fx.ff.trans fu4.ff) pg)) (ea_cons (ev_lst1 (ev_var rfl p4)) ea_nil))) fun v6 H6 F6 fu6 p6 => ⟨F6, (((fu3.trans fx).trans fu4).trans f5).trans fu6, v6, some y, some u4, _, rfl, p6, he⟩
    · rintro σ F' H' ⟨fu3, u', x3, x4, g, rfl, pg, he⟩
      rw [List.drop_length] at he
      refine s_retk fu3.fh (fun v H4 F4 f4 => k v H4 F4 (((fu1.trans fu2).trans fu3).trans f4)) ?_
      show Ev _ _ F' H' (zON (canNot st (Vbwbad.free st) l))
      rw [he]
      exact ev_non
def sp_House_do_block (K : PySem.W.Frag) (A : Adr) : Sp := hSp A (α := List Nat) (fun x => [zL zN x.2.2]) (fun _ => True) (fun x => zB (blockP x.2.1 x.2.2))
theorem ok_House_do_block (T : Txt K mg A) : MF P w K mg base CX0 4 A.H "do_block" ["self", "numbers"] (sp_House_do_block K A) :=
  T.f_House_do_block.mf fun f fd Fn => body_ok Fn sc_House_do_block (fun _ => rfl) fun cdv B0 outer s H E hr => by
    refine ⟨_, (pss_cons (ps_setLc (i := 2) (own := [("batch", 3)]) (g := (gName 3)) (tt := (tTest (tOp (rIn K false) (tFld K (tVar 3) "number") (tVar 1)))) (te := (tVar 3)) rfl sc_House_do_block.nd rfl rfl (sw_true rfl rfl rfl (by decide +kernel)) (pi_list (pe_fld (pv 0) rfl)) (blkOk_by (N := ["self", "numbers", "some", "batch", "free"]) (sc := defScope s_House_do_block) (own := [("batch", 3)]) (by decide +kernel)) (fun _ _ _ _ _ => (pg_name (i := 3) sc_House_do_block.nd rfl (Or.inl rfl))) (fun _ _ _ _ _ => pts_one (pt_cmpR op_in_seq (pe_fld (pv 3) rfl) (pv 1) (by rfl))) (fun _ _ _ _ _ => (pv 3)))
      (pss_cons (ps_set (i := 4) sc_House_do_block.nd rfl (Or.inr rfl) (pe_callF (ok_given_back T) (hr.mono (by decide)) pass0 (pa_cons (pe_methF0 (ok_House_free T) (hr.mono (by decide)) pass0 (pv 0)) (pa_cons (pe_lc (own := [("batch", 3)]) (g := (gName 3)) (tt := (tTest (tOp (rIn K true) (tFld K (tVar 3) "number") (tVar 1)))) (te := (tVar 3)) rfl sc_House_do_block.nd (pi_list (pe_fld (pv 0) rfl)) (blkOk_by (N := ["self", "numbers", "some", "batch", "free"]) (sc := defScope s_House_do_block) (own := [("batch", 3)]) (by decide +kernel)) (fun _ _ _ _ _ => (pg_name (i := 3) sc_House_do_block.nd rfl (Or.inl rfl))) (fun _ _ _ _ _ => pts_one (pt_cmpR op_notIn_seq (pe_fld (pv 3) rfl) (pv 1) (by rfl))) (fun _ _ _ _ _ => (pv 3))) pa_nil))))
      (pss_one (ps_ret (pe_and (pe_cmpR (op_neNil hr.units) (pv 2) (pe_lst pa_nil) (nomark _)) (pe_one (pe_not (pe_callB (cr_any rfl) rfl T.b_any (by decide +kernel) (pa_cons (pe_lc (own := [("batch", 3)]) (g := (gName 3)) (tt := tYes) (te := (tMeth A.B "can_end" (sp_Batch_can_end K A) [] E0 (tVar 3) (tCons (tVar 4) tNil))) rfl sc_House_do_block.nd (pi_list (pv 2)) (blkOk_by (N := ["self", "numbers", "some", "batch", "free"]) (sc := defScope s_House_do_block) (own := [("batch", 3)]) (by decide +kernel)) (fun _ _ _ _ _ => (pg_name (i := 3) sc_House_do_block.nd rfl (Or.inl rfl))) (fun _ _ _ _ _ => pts_nil) (fun _ _ _ _ _ => (pe_methF (ok_Batch_can_end T) (hr.mono (by decide)) pass0 (pv 3) (pa_cons (pv 4) pa_nil)))) pa_nil))))))))), fun x F vs Q sF av pr k => ?_⟩
    obtain ⟨a, st, l⟩ := x
    obtain ⟨u, ul, rfl, p0, p1⟩ := av.two
    obtain rfl : u = .ref a := p0
    obtain ⟨hA, wf, _⟩ := pr
    have hA : HouseAt A a st F H := hA
    have wf : WF st := wf
    have cmp : ∀ (neg : Bool) (x2 x3 x4 : Option V) (F H : Hp), HouseAt A a st F H → zL zN l ul F → Ev (tLc (iList K (tFld K (tVar 0) "batches")) (gName 3) (tTest (tOp (rIn K neg) (tFld K (tVar 3) "number") (tVar 1))) (tVar 3) [3]) [some (.ref a), some ul, x2, x3, x4] F H (zBs A (st.batches.filter fun b => if neg then !l.contains b.id else l.contains b.id)) := by
      intro neg x2 x3 x4 F H hA p1
      have := ev_lc (r := zBat A) (te := tVar 3) (vs := [3]) (tg := gName 3) (tt := tTest (tOp (rIn K neg) (tFld K (tVar 3) "number") (tVar 1))) (σ := [some (.ref a), some ul, x2, x3, x4]) (F := F) (R := H)
        (fun b : B => if neg then !l.contains b.id else l.contains b.id) id hA.len (ei_list (K := K) (ev_bts T hA (ev_var (i := 0) rfl zAt_rfl))) fun b hb y F1 R1 s1 s2 s3 g =>
          ⟨_, b_name, rfl, et_test (Ev.bl (by rw [mem_int]) (ev_in (ev_fld hf_number T.c_B T.n_B_number (ev_var rfl g)) (ev_var rfl (zN_int (up s1 p1))))), fun _ => ev_var rfl g⟩
      rw [List.map_id] at this
      exact this
    refine q_asg sF (cmp false none none none F H hA p1) fun u2 H1 F1 fu1 p2 => ?_
    have p2 : zBs A (outOf st.batches l) u2 F1 := p2
    refine q_asg fu1.fh (ev_call (Vbwbad.free st, leftOff st.batches l) pr0 (ea_cons (ev_free (hA.fut fu1) wf (ev_var rfl zAt_rfl)) (ea_cons (cmp true (some u2) none none F1 H1 (hA.fut fu1) (up fu1.ff p1)) ea_nil))) fun u4 H2 F2 fu2 p4 => ?_
    refine s_retk fu2.fh (fun v H4 F4 f4 => k v H4 F4 ((fu1.trans fu2).trans f4)) ?_
    refine ev_andV (ev_eqNil (neg := true) (g := zBat A) (ev_var rfl (up fu2.ff p2)) ev_nil) fun _ => ?_
    refine ev_notV ?_
    rw [← any_id]
    refine ev_any (ea_cons (ev_lcA (r := zB) (fun b : B => Vbwbad.canEnd (givenBack (Vbwbad.free st) (leftOff st.batches l)) b) (zL_le p2) (ei_list (ev_var rfl (up fu2.ff p2))) fun b hb y F3 R3 s1 s2 s3 g => ⟨_, b_name, rfl, ?_⟩) ea_nil)
    exact ev_meth (P := zBat A b) (b, givenBack (Vbwbad.free st) (leftOff st.batches l)) (ins_bat (by decide +kernel)) pr0 rfl (ev_var rfl g) (ea_cons (ev_var rfl (up s1 p4)) ea_nil)
def sp_House_locked (K : PySem.W.Frag) (A : Adr) : Sp := hSp A (α := Unit) (fun _ => []) (fun _ => True) (fun x => zBs A (goAll (Vbwbad.free x.2.1) x.2.1.batches))
theorem ok_House_locked (T : Txt K mg A) : MF P w K mg base CX0 4 A.H "locked" ["self"] (sp_House_locked K A) :=
  T.f_House_locked.mf fun f fd Fn => body_ok Fn sc_House_locked (fun _ => rfl) fun cdv B0 outer s H E hr => by
    refine ⟨_, (pss_one (ps_ret (pe_callF (ok_locked_ends T) (hr.mono (by decide)) pass0 (pa_cons (pe_fld (pv 0) rfl) (pa_cons (pe_methF0 (ok_House_free T) (hr.mono (by decide)) pass0 (pv 0)) pa_nil))))), fun x F vs Q sF av pr k => ?_⟩
    obtain ⟨a, st, _⟩ := x
    obtain ⟨u, rfl, p0⟩ := av.one
    obtain rfl : u = .ref a := p0
    obtain ⟨hA, wf, _⟩ := pr
    refine s_retk sF k ?_
    exact ev_call (st.batches, Vbwbad.free st) pr0 (ea_cons (ev_bts T hA (ev_var rfl zAt_rfl)) (ea_cons (ev_free hA wf (ev_var rfl zAt_rfl)) ea_nil))

/-! ### what changes the house -/
structure FutB (a : Addr) (F F' H H2 : Hp) : Prop where
  ff : Same F F'
  fh : Same F' H2
  hh : ∀ b o, b ≠ a → H b = some o → H2 b = some o
  nw : New F F' H
  al : H a ≠ none → H2 a ≠ none
theorem FutB.of {a : Addr} {F F' H H2 : Hp} (u : Fut F F' H H2) : FutB a F F' H H2 := ⟨u.ff, u.fh, fun b o _ h => u.hh b o h, u.nw, same_ne u.hh⟩
theorem FutB.trans {a : Addr} {F F1 F2 H H1 H2 : Hp} (u : FutB a F F1 H H1) (v : FutB a F1 F2 H1 H2) : FutB a F F2 H H2 := by
  refine ⟨u.ff.trans v.ff, v.fh, fun b o hb h => v.hh b o hb (u.hh b o hb h), fun b hb n => v.nw b ?_ (u.nw b hb n), fun h => v.al (u.al h)⟩
  by_cases q : b = a
  · subst q
    exact u.al hb
  · cases e : H b with
    | none => exact absurd e hb
    | some o =>
      rw [u.hh b o q e]
      exact fun z => by cases z
theorem FutB.upd {a : Addr} {F F1 H H1 : Hp} {o : HO} (u : Fut F F1 H H1) (f : F1 a = none) : FutB a F F1 H (upd H1 a o) := by
  refine ⟨u.ff, fun b w e => ?_, fun b w hb e => ?_, u.nw, fun _ => ?_⟩
  · rw [upd_ne (ne_of_none e f)]
    exact u.fh b w e
  · rw [upd_ne hb]
    exact u.hh b w e
  · rw [upd_same]
    exact fun z => by cases z
section
variable {a : Addr} {st : S} {F H : Hp} {σ : L2.St} {ta tv : TE} {tz : TS} {D : Ends}
/-- self.batches = e -/
theorem s_setb (T : Txt K mg A) {bs : List B} (hA : HouseAt A a st F H) (s : Same F H) (hv : Ev tv σ F H (zBs A bs)) (ha : Ev ta σ F H (zAt a)) (k : ∀ H1 F1, FutB a F F1 H H1 → HouseAt A a ⟨st.totals, bs, st.next⟩ F1 H1 → D.nx σ H1) : sFld K ta tv "batches" D σ H := by
  obtain ⟨fa, dx, u1, u2, h, p1, p2⟩ := hA
  refine s_fld s hv ha h fa T.c_H T.n_H_batches (by show 3 < 1000; decide) fun v H1 F1 u p f1 _ => ?_
  have e : putF "batches" v (hF u1 u2 (.int (st.next : Nat))) = hF u1 v (.int (st.next : Nat)) := (put_past (by decide +kernel)).trans (congrArg _ put_here)
  rw [e]
  exact k _ F1 (FutB.upd u f1) ⟨f1, dx, u1, v, upd_same, up u.ff p1, p⟩
theorem q_setb (T : Txt K mg A) {bs : List B} (hA : HouseAt A a st F H) (s : Same F H) (hv : Ev tv σ F H (zBs A bs)) (ha : Ev ta σ F H (zAt a)) (k : ∀ H1 F1, FutB a F F1 H H1 → HouseAt A a ⟨st.totals, bs, st.next⟩ F1 H1 → tz D σ H1) : tSeq (sFld K ta tv "batches") tz D σ H := s_setb (D := { D with nx := tz D }) T hA s hv ha k
theorem s_sett (T : Txt K mg A) {t : Vec} (hA : HouseAt A a st F H) (s : Same F H) (hv : Ev tv σ F H (zV t)) (ha : Ev ta σ F H (zAt a)) (k : ∀ H1 F1, FutB a F F1 H H1 → HouseAt A a ⟨t, st.batches, st.next⟩ F1 H1 → D.nx σ H1) : sFld K ta tv "totals" D σ H := by
  obtain ⟨fa, dx, u1, u2, h, p1, p2⟩ := hA
  refine s_fld s hv ha h fa T.c_H T.n_H_totals (by show 3 < 1000; decide) fun v H1 F1 u p f1 _ => ?_
  have e : putF "totals" v (hF u1 u2 (.int (st.next : Nat))) = hF v u2 (.int (st.next : Nat)) := put_here
  rw [e]
  exact k _ F1 (FutB.upd u f1) ⟨f1, dx, v, u2, upd_same, p, up u.ff p2⟩
theorem q_sett (T : Txt K mg A) {t : Vec} (hA : HouseAt A a st F H) (s : Same F H) (hv : Ev tv σ F H (zV t)) (ha : Ev ta σ F H (zAt a)) (k : ∀ H1 F1, FutB a F F1 H H1 → HouseAt A a ⟨t, st.batches, st.next⟩ F1 H1 → tz D σ H1) : tSeq (sFld K ta tv "totals") tz D σ H := s_sett (D := { D with nx := tz D }) T hA s hv ha k
theorem s_setm (T : Txt K mg A) {n : Nat} (hA : HouseAt A a st F H) (s : Same F H) (hv : Ev tv σ F H (zN n)) (ha : Ev ta σ F H (zAt a)) (k : ∀ H1 F1, FutB a F F1 H H1 → HouseAt A a ⟨st.totals, st.batches, n⟩ F1 H1 → D.nx σ H1) : sFld K ta tv "many_waited" D σ H := by
  obtain ⟨fa, dx, u1, u2, h, p1, p2⟩ := hA
  refine s_fld s hv ha h fa T.c_H T.n_H_many_waited (by show 3 < 1000; decide) fun v H1 F1 u p f1 _ => ?_
  have p' : v = .int (n : Nat) := p
  subst p'
  have e : putF "many_waited" (.int (n : Nat)) (hF u1 u2 (.int (st.next : Nat))) = hF u1 u2 (.int (n : Nat)) := (put_past (by decide +kernel)).trans (congrArg _ ((put_past (by decide +kernel)).trans (congrArg _ put_here)))
  rw [e]
  exact k _ F1 (FutB.upd u f1) ⟨f1, dx, u1, u2, upd_same, up u.ff p1, up u.ff p2⟩
theorem q_setm (T : Txt K mg A) {n : Nat} (hA : HouseAt A a st F H) (s : Same F H) (hv : Ev tv σ F H (zN n)) (ha : Ev ta σ F H (zAt a)) (k : ∀ H1 F1, FutB a F F1 H H1 → HouseAt A a ⟨st.totals, st.batches, n⟩ F1 H1 → tz D σ H1) : tSeq (sFld K ta tv "many_waited") tz D σ H := s_setm (D := { D with nx := tz D }) T hA s hv ha k
end
/-- a method of the house that changes it -/
def mSp (A : Adr) {α : Type} (args : Addr × S × α → List Rp) (pre : Addr × S × α → Prop) (next : Addr × S × α → S) (res : Addr × S × α → Rp) : Sp := fun vs H Q _ => ∃ (x : Addr × S × α) (F : Hp), Same F H ∧ AllR (zAt x.1 :: args x) vs F ∧ HouseAt A x.1 x.2.1 F H ∧ WF x.2.1 ∧ pre x ∧
  ∀ v H2 F', FutB x.1 F F' H H2 → HouseAt A x.1 (next x) F' H2 → res x v F' → Q v H2
theorem body_okM {α : Type} {args : Addr × S × α → List Rp} {pre : Addr × S × α → Prop} {next : Addr × S × α → S} {res : Addr × S × α → Rp} {name qual : Str} {st : Stmt} {ps N : List Str} {k : Nat} {f : Addr} {fd : FuncData} (Fn : Fun K name qual st f fd) (S : FnScope N ps (defScope st)) (hl : ∀ x, (args x).length + 1 = ps.length)
    (hb : ∀ (cdv : Value) (A0 : Around) (outer : List Env) (s : Shared) (H : Hp) (E : XK), Room k (A0.deeper (envOfC qual (defScope st) s.heap.objs.size f cdv)) →
      ∃ t, PSs (cxOf CX0 P w K mg base N qual (defScope st) f cdv A0 outer s H E).nox (defBody st) t ∧
        ∀ (a : Addr) (s : G.S) (x : α) (F : Hp) (vs : List V) (Q : VK), Same F H → AllR (zAt a :: args (a, s, x)) vs F → HouseAt A a s F H → WF s → pre (a, s, x) → (∀ v H2 F', FutB a F F' H H2 → HouseAt A a (next (a, s, x)) F' H2 → res (a, s, x) v F' → Q v H2) → t { nx := fun _ H' => Q .non H', rt := Q } (start N vs) H) :
    FnOk P w K mg base CX0 (k + 1) f fd ps (mSp A args pre next res) := by
  refine Fn.ok S (fun vs H Q E h => ?_) (fun cdv A0 outer s H vs Q E hr h => ?_)
  · obtain ⟨x, F, _, a, _⟩ := h
    rw [a.len, ← hl x]
    rfl
  · obtain ⟨⟨a, st, x⟩, F, s1, av, hA, wf, p, q⟩ := h
    obtain ⟨t, h1, h2⟩ := hb cdv A0 outer s H E hr
    exact ⟨t, h1, h2 a st x F vs Q s1 av hA wf p q⟩
def sp_House_add (K : PySem.W.Frag) (A : Adr) : Sp := mSp A (α := Nat × List Vec) (fun x => [zN x.2.2.1, zL zV x.2.2.2]) (fun _ => True) (fun x => ⟨x.2.1.totals, x.2.1.batches ++ [⟨x.2.2.1, x.2.2.2, Vbwbad.zero x.2.1, none⟩], x.2.1.next⟩) (fun _ => zNo)
theorem ok_House_add (T : Txt K mg A) : MF P w K mg base CX0 3 A.H "add" ["self", "number", "alternatives"] (sp_House_add K A) :=
  T.f_House_add.mf fun f fd Fn => body_okM Fn sc_House_add (fun _ => rfl) fun cdv B0 outer s H E hr => by
    refine ⟨_, (pss_one (ps_fld (pv 0) (pe_op op_cat (pe_fld (pv 0) rfl) (pe_lst (pa_cons (pe_makeF (ok_Batch_init T) (hr.mono (by decide)) pass0 (pa_cons (pv 1) (pa_cons (pv 2) (pa_cons (pe_op op_rep (pe_lst (pa_cons pe_int pa_nil)) (pe_callB call_len_seq rfl T.b_len (by decide +kernel) (pa_cons (pe_fld (pv 0) rfl) pa_nil))) (pa_cons pe_non pa_nil))))) pa_nil))) rfl)), fun a st x F vs Q sF av hA wf _ k => ?_⟩
    obtain ⟨n, alts⟩ := x
    obtain ⟨u, un, ua, rfl, p0, p1, p2⟩ := av.three
    obtain rfl : u = .ref a := p0
    have ht := hA.tlen
    have hfew := wf.few
    refine s_setb T hA sF (ev_cat (l := st.batches) (m := [⟨n, alts, Vbwbad.zero st, none⟩]) (by show st.batches.length + 1 ≤ 20000; omega) (ev_bts T hA (ev_var rfl zAt_rfl)) (ev_lst1 (ev_batch ⟨n, alts, Vbwbad.zero st, none⟩ (ea_cons (ev_var rfl p1) (ea_cons (ev_var rfl p2) (ea_cons ?_ (ea_cons ?_ ea_nil))))))) (ev_var rfl zAt_rfl) fun H1 F1 fu hA1 => k _ H1 F1 fu hA1 rfl
    · show Ev _ _ F H (zV (Vbwbad.zero st))
      rw [zero_rep]
      exact ev_rep0 ht (ev_lst1 (f := zN) (a := 0) ev_int) (ev_len (ea_cons (ev_tot T hA (ev_var rfl zAt_rfl)) ea_nil))
    · exact ev_non
def sp_House_remove (K : PySem.W.Frag) (A : Adr) : Sp := mSp A (α := Nat) (fun x => [zN x.2.2]) (fun _ => True) (fun x => ⟨x.2.1.totals, wo x.2.1.batches x.2.2, x.2.1.next⟩) (fun _ => zNo)
theorem ok_House_remove (T : Txt K mg A) : MF P w K mg base CX0 1 A.H "remove" ["self", "number"] (sp_House_remove K A) :=
  T.f_House_remove.mf fun f fd Fn => body_okM Fn sc_House_remove (fun _ => rfl) fun cdv B0 outer s H E hr => by
    refine ⟨_, (pss_one (ps_fld (pv 0) (pe_lc (own := [("batch", 2)]) (g := (gName 2)) (tt := (tTest (tOp rNe (tFld K (tVar 2) "number") (tVar 1)))) (te := (tVar 2)) rfl sc_House_remove.nd (pi_list (pe_fld (pv 0) rfl)) (blkOk_by (N := ["self", "number", "batch"]) (sc := defScope s_House_remove) (own := [("batch", 2)]) (by decide +kernel)) (fun _ _ _ _ _ => (pg_name (i := 2) sc_House_remove.nd rfl (Or.inl rfl))) (fun _ _ _ _ _ => pts_one (pt_cmpR op_ne (pe_fld (pv 2) rfl) (pv 1) (nomark _))) (fun _ _ _ _ _ => (pv 2))) rfl)), fun a st x F vs Q sF av hA wf _ k => ?_⟩
    obtain ⟨u, un, rfl, p0, p1⟩ := av.two
    obtain rfl : u = .ref a := p0
    have e1 := ev_lc (r := zBat A) (te := tVar 2) (vs := [2]) (tg := gName 2) (tt := tTest (tOp rNe (tFld K (tVar 2) "number") (tVar 1))) (σ := [some (.ref a), some un, none]) (F := F) (R := H) (fun b : B => b.id != x) id hA.len (ei_list (K := K) (ev_bts T hA (ev_var (i := 0) rfl zAt_rfl))) fun b hb y F1 R1 s1 s2 s3 g =>
      ⟨_, b_name, rfl, et_test (Ev.bl (nat_ne _ _) (ev_neI (ev_fld hf_number T.c_B T.n_B_number (ev_var rfl g)) (ev_var rfl (up s1 p1)))), fun _ => ev_var rfl g⟩
    rw [List.map_id] at e1
    exact s_setb T hA sF e1 (ev_var rfl zAt_rfl) fun H1 F1 fu hA1 => k _ H1 F1 fu hA1 rfl
/-- what ask leaves -/
def askNext (s : S) (b : B) (v : Vec) : S := if canGrantP s b v = true then ⟨s.totals, giveB s b v, s.next⟩ else ⟨s.totals, (Vbwbad.put s ⟨b.id, b.alts, b.holds, some (s.next, v)⟩).batches, s.next + 1⟩
def sp_House_ask (K : PySem.W.Frag) (A : Adr) : Sp := mSp A (α := B × Vec) (fun x => [zBat A x.2.2.1, zV x.2.2.2]) (fun _ => True) (fun x => askNext x.2.1 x.2.2.1 x.2.2.2) (fun x => zB (canGrantP x.2.1 x.2.2.1 x.2.2.2))
theorem ok_House_ask (T : Txt K mg A) : MF P w K mg base CX0 7 A.H "ask" ["self", "batch", "things"] (sp_House_ask K A) :=
  T.f_House_ask.mf fun f fd Fn => body_okM Fn sc_House_ask (fun _ => rfl) fun cdv B0 outer s H E hr => by
    refine ⟨_, (pss_cons (ps_if (pt_val (pe_methF (ok_House_can_grant T) (hr.mono (by decide)) pass0 (pv 0) (pa_cons (pv 1) (pa_cons (pv 2) pa_nil))))
      (pss_cons (ps_fld (pv 0) (pe_methF (ok_House_with_more T) (hr.mono (by decide)) pass0 (pv 0) (pa_cons (pv 1) (pa_cons (pv 2) pa_nil))) rfl)
      (pss_one (ps_ret pe_bl)))
      pss_nil)
      (pss_cons (ps_fld (pv 0) (pe_methF (ok_House_with_batch T) (hr.mono (by decide)) pass0 (pv 0) (pa_cons (pe_methF (ok_Batch_waiting T) (hr.mono (by decide)) pass0 (pv 1) (pa_cons (pe_makeF (ok_Request_init T) (hr.mono (by decide)) pass0 (pa_cons (pe_fld (pv 0) rfl) (pa_cons (pv 2) pa_nil))) pa_nil)) pa_nil)) rfl)
      (pss_cons (ps_fld (pv 0) (pe_op op_add (pe_fld (pv 0) rfl) pe_int) rfl)
      (pss_one (ps_ret pe_bl))))), fun a st x F vs Q sF av hA wf _ k => ?_⟩
    obtain ⟨b, v⟩ := x
    obtain ⟨u, ub, uv, rfl, p0, p1, p2⟩ := av.three
    obtain rfl : u = .ref a := p0
    refine q_when sF (et_B (ev_hm (res := fun x : Addr × S × B × Vec => zB (canGrantP x.2.1 x.2.2.1 x.2.2.2)) (b, v) hA wf trivial (by decide +kernel) (ev_var rfl zAt_rfl) (ea_cons (ev_var rfl p1) (ea_cons (ev_var rfl p2) ea_nil)))) (fun hc H1 f1 => ?_) fun hc H1 f1 => ?_
    · have hA1 := hA.fut f1
      have hc : canGrantP st b v = true := hc
      refine q_setb T hA1 f1.fh (ev_hm (res := fun x : Addr × S × B × Vec => zBs A (giveB x.2.1 x.2.2.1 x.2.2.2)) (b, v) hA1 wf trivial (by decide +kernel) (ev_var rfl zAt_rfl) (ea_cons (ev_var rfl p1) (ea_cons (ev_var rfl p2) ea_nil))) (ev_var rfl zAt_rfl) fun H2 F2 fu hA2 => ?_
      refine k _ H2 F2 ((FutB.of f1).trans fu) ?_ ?_
      · show HouseAt A a (askNext st b v) F2 H2
        unfold askNext
        rw [if_pos hc]
        exact hA2
      · show V.bl true = V.bl (canGrantP st b v)
        rw [hc]
    · have hA1 := hA.fut f1
      have hc : canGrantP st b v = false := hc
      refine q_setb T hA1 f1.fh (ev_hm (res := fun x : Addr × S × B => zBs A (Vbwbad.put x.2.1 x.2.2).batches) ⟨b.id, b.alts, b.holds, some (st.next, v)⟩ hA1 wf trivial (by decide +kernel) (ev_var rfl zAt_rfl) (ea_cons (ev_meth (P := zBat A b) (b, some (st.next, v)) (ins_bat (by decide +kernel)) pr0 rfl (ev_var rfl p1)
        (ea_cons (P := zWant A (some (st.next, v))) (ev_request (st.next, v) (ea_cons (ev_mw T hA1 (ev_var rfl zAt_rfl)) (ea_cons (ev_var rfl p2) ea_nil))) ea_nil)) ea_nil)) (ev_var rfl zAt_rfl) fun H2 F2 fu hA2 => ?_
      refine q_setm T hA2 fu.fh (Ev.int (Int.natCast_add _ 1).symm (ev_add (ev_mw T hA2 (ev_var rfl zAt_rfl)) ev_int)) (ev_var rfl zAt_rfl) fun H3 F3 fu3 hA3 => ?_
      refine k _ H3 F3 (((FutB.of f1).trans fu).trans fu3) ?_ ?_
      · show HouseAt A a (askNext st b v) F3 H3
        unfold askNext
        rw [if_neg (by rw [hc]; exact Bool.false_ne_true)]
        exact hA3
      · show V.bl false = V.bl (canGrantP st b v)
        rw [hc]
end
end G
end

section
set_option Elab.async false
set_option linter.all false
set_option maxRecDepth 100000
set_option maxHeartbeats 4000000
namespace G
open PySem PySem.Spec PyProof.Rows L2
section
variable {P : Program} {w : World} {K : PySem.W.Frag} {mg : Str → Option Value} {base : Heap} {A : Adr}
theorem FutB.put {a : Addr} {F0 F H0 H : Hp} {l : Addr} {o : HO} (u : FutB a F0 F H0 H) (hf : F l = none) (h0 : H0 l = none) : FutB a F0 F H0 (L2.upd H l o) :=
  ⟨u.ff, fun b w e => by
    rw [upd_ne (ne_of_none e hf)]
    exact u.fh b w e, fun b w hb e => by
    rw [upd_ne (ne_of_none e h0)]
    exact u.hh b w hb e, u.nw, fun h => by
    by_cases q : a = l
    · rw [q, upd_same]
      exact fun z => by cases z
    · rw [upd_ne q]
      exact u.al h⟩
theorem FutB.add {a : Addr} {F0 F H0 H : Hp} {p : Addr} {o : HO} (u : FutB a F0 F H0 H) (n : H0 p = none) (hp : H p = some o) (hf : F p = none) : FutB a F0 (L2.upd F p o) H0 H := by
  refine ⟨same_upd u.ff hf, fun a w e => ?_, u.hh, fun a ha hn => ?_, u.al⟩
  · by_cases h : a = p
    · subst h
      rw [upd_same] at e
      cases e
      exact hp
    · rw [upd_ne h] at e
      exact u.fh a w e
  · by_cases h : a = p
    · subst h
      exact absurd n ha
    · rw [upd_ne h]
      exact u.nw a ha hn
theorem FutB.grow {a : Addr} {F0 F F1 H0 H H1 : Hp} (u : FutB a F0 F H0 H) (v : Fut F F1 H H1) : FutB a F0 F1 H0 H1 := u.trans (.of v)
/-- the house stands when another thing is set -/
theorem HouseAt.off {a : Addr} {s : S} {F R : Hp} {l : Addr} {o : HO} (h : HouseAt A a s F R) (hl : R l = none ∨ l ≠ a) : HouseAt A a s F (upd R l o) := by
  obtain ⟨fa, dx, u1, u2, q, p1, p2⟩ := h
  refine ⟨fa, dx, u1, u2, ?_, p1, p2⟩
  rw [upd_ne ?_]
  · exact q
  · intro z
    rcases hl with hl | hl
    · rw [← z, q] at hl
      cases hl
    · exact hl z.symm
theorem HouseAt.neL {a l : Addr} {s : S} {F R : Hp} {us : List V} (h : HouseAt A a s F R) (hl : R l = some (.lst us)) : l ≠ a := fun z => by
  obtain ⟨fa, dx, u1, u2, q, p1, p2⟩ := h
  rw [z, q] at hl
  cases hl
theorem batchOf_mem' {s : S} {i : Nat} {b : B} (h : Vbwbad.batchOf s i = some b) : b ∈ s.batches ∧ b.id = i := ⟨List.mem_of_find?_eq_some h, by simpa using List.find?_some h⟩
theorem putWait_len (b : B) : ∀ l : List B, (Vbwbad.putWait b l).length = l.length + 1
  | [] => rfl
  | c :: r => by
    unfold Vbwbad.putWait
    have ih := putWait_len b r
    split
    · split
      · rfl
      · rw [List.length_cons, ih, List.length_cons]
    · rw [List.length_cons, ih, List.length_cons]
theorem wait_fold (l : List B) : ∀ m : List B, (l.foldl (fun l b => Vbwbad.putWait b l) m).length = l.length + m.length := by
  induction l with
  | nil =>
    intro m
    show m.length = 0 + m.length
    omega
  | cons b l ih =>
    intro m
    rw [List.foldl_cons, ih, putWait_len, List.length_cons]
    omega
theorem wait_len (st : S) : (Vbwbad.ids (Vbwbad.waiting st)).length ≤ st.batches.length := by
  unfold Vbwbad.ids Vbwbad.waiting
  rw [List.length_map, wait_fold]
  exact List.length_filter_le _ _
def sp_House_look_again (K : PySem.W.Frag) (A : Adr) : Sp := mSp A (α := Unit) (fun _ => []) (fun _ => True) (fun x => (Vbwbad.reconsidered x.2.1).1) (fun x => zL zN (Vbwbad.reconsidered x.2.1).2)
theorem ok_House_look_again (T : Txt K mg A) : MF P w K mg base CX0 7 A.H "look_again" ["self"] (sp_House_look_again K A) :=
  T.f_House_look_again.mf fun f fd Fn => body_okM Fn sc_House_look_again (fun _ => rfl) fun cdv B0 outer s H E hr => by
    refine ⟨_, (pss_cons (ps_set (i := 1) sc_House_look_again.nd rfl (Or.inl rfl) (pe_lst pa_nil))
      (pss_cons (ps_for PassesOwn.never rfl (pi_list (pe_methF0 (ok_House_waiting T) (hr.mono (by decide)) pass0 (pv 0))) (pg_name (i := 2) sc_House_look_again.nd rfl (Or.inl rfl))
      (pss_cons (ps_set (i := 3) sc_House_look_again.nd rfl (Or.inl rfl) (pe_methF (ok_House_find T) (hr.mono (by decide)) pass0 (pv 0) (pa_cons (pv 2) pa_nil)))
      (pss_cons (ps_set (i := 4) sc_House_look_again.nd rfl (Or.inl rfl) (pe_fld (pe_fld (pv 3) rfl) rfl))
      (pss_one (ps_if (pt_val (pe_methF (ok_House_can_grant T) (hr.mono (by decide)) pass0 (pv 0) (pa_cons (pv 3) (pa_cons (pv 4) pa_nil))))
      (pss_cons (ps_fld (pv 0) (pe_methF (ok_House_with_batch T) (hr.mono (by decide)) pass0 (pv 0) (pa_cons (pe_methF (ok_Batch_waiting T) (hr.mono (by decide)) pass0 (pe_methF (ok_Batch_holding T) (hr.mono (by decide)) pass0 (pv 3) (pa_cons (pe_callF (ok_more T) (hr.mono (by decide)) pass0 (pa_cons (pe_fld (pv 3) rfl) (pa_cons (pv 4) pa_nil))) pa_nil)) (pa_cons pe_non pa_nil)) pa_nil)) rfl)
      (pss_one (ps_expr (pe_bm PySem.F.plainAttrs_list PySem.F.slot_list_append PySem.F.type_list_append mt_append (pv 1) (pa_cons (pv 2) pa_nil)))))
      pss_nil)))))
      (pss_one (ps_ret (pv 1))))), fun a st x F vs Q sF av hA wf _ k => ?_⟩
    obtain ⟨u, rfl, p0⟩ := av.one
    obtain rfl : u = .ref a := p0
    refine q_new sF fun lo nlo s0 => ?_
    have flo : F lo = none := same_none sF nlo
    have fu0 : Fut F F H (upd H lo (.lst [])) := Fut.grow sF (same_upd (Same.refl _) nlo)
    have hA0 := hA.fut fu0
    refine q_for s0 (ei_list (ev_hm (res := fun x : Addr × S × Unit => zL zN (Vbwbad.ids (Vbwbad.waiting x.2.1))) () hA0 wf trivial (by decide +kernel) (ev_var rfl zAt_rfl) ea_nil)) fun H1 F1 fu => ⟨fun i σ F' H' => FutB a F F' H H' ∧ Same F1 F' ∧ ∃ s' done us x2 x3 x4, σ = [some (.ref a), some (.ref lo), x2, x3, x4] ∧ HouseAt A a s' F' H' ∧ WF s' ∧ Wait s' ((Vbwbad.ids (Vbwbad.waiting st)).drop i) ∧
        H' lo = some (.lst us) ∧ F' lo = none ∧ Paired (fun n u => zN n u F') done us ∧ done.length ≤ i ∧ Vbwbad.again (Vbwbad.ids (Vbwbad.waiting st)) st = ((Vbwbad.again ((Vbwbad.ids (Vbwbad.waiting st)).drop i) s').1, done ++ (Vbwbad.again ((Vbwbad.ids (Vbwbad.waiting st)).drop i) s').2),
      ⟨.of (fu0.trans fu), Same.refl _, st, [], [], none, none, none, rfl, hA0.fut fu, wf, wait_start wf, fu.hh _ _ upd_same, fu.nw lo (by rw [upd_same]; exact fun z => by cases z) flo, .nil, Nat.zero_le _, rfl⟩, fun i σ F' H' q => ⟨q.2.1, q.1.fh⟩, ?_, ?_⟩
    · rintro i n y σ F' Hc F2 H2 hb ⟨fu2, sf, s', done, us, x2, x3, x4, rfl, hA1, wf1, wt, hl, fl, pr, hlen, he⟩ fx gx
      have hd : (Vbwbad.ids (Vbwbad.waiting st)).drop i = n :: (Vbwbad.ids (Vbwbad.waiting st)).drop (i + 1) := by
        rw [← List.getElem_cons_drop (List.getElem?_eq_some_iff.mp hb).1, (List.getElem?_eq_some_iff.mp hb).2]
      rw [hd] at wt he
      obtain ⟨b, hbo, hwant⟩ := wt.2 n (by simp)
      obtain ⟨w1, hw1⟩ := Option.isSome_iff_exists.mp hwant
      obtain ⟨hbm, hbi⟩ := batchOf_mem' hbo
      have hA2 := hA1.fut fx
      refine b_g (q_asg fx.fh (ev_hm (res := fun x : Addr × S × Nat => zOB A (Vbwbad.batchOf x.2.1 x.2.2)) n hA2 wf1 trivial (by decide +kernel) (ev_var rfl zAt_rfl) (ea_cons (ev_var rfl gx) ea_nil)) fun u3 H3 F3 fu3 p3 => ?_)
      have p3 : zOB A (Vbwbad.batchOf s' n) u3 F3 := p3
      rw [hbo] at p3
      have p3 : zBat A b u3 F3 := p3
      have er := ev_fld (K := K) (σ := [some (.ref a), some (.ref lo), some y, some u3, x4]) (R := H3) hf_request T.c_B T.n_B_request (ev_var (i := 3) rfl p3)
      rw [hw1] at er
      refine q_asg fu3.fh (ev_fld (hf_things (A := A) (x := w1)) T.c_R T.n_R_things er) fun u4 H4 F4 fu4 p4 => ?_
      have p3 := up fu4.ff p3
      have hA4 := (hA2.fut fu3).fut fu4
      have fxx := (fx.trans fu3).trans fu4
      have hlo4 : H4 lo = some (.lst us) := fxx.hh _ _ hl
      have flo4 : F4 lo = none := fxx.nw lo (by rw [hl]; exact fun z => by cases z) fl
      have hvl : w1.2.length = s'.totals.length := (wf1.wlen b hbm w1 hw1).1
      refine s_if fu4.fh (et_B (ev_hm (res := fun x : Addr × S × B × Vec => zB (canGrantP x.2.1 x.2.2.1 x.2.2.2)) (b, w1.2) hA4 wf1 trivial (by decide +kernel) (ev_var rfl zAt_rfl) (ea_cons (ev_var rfl p3) (ea_cons (ev_var rfl p4) ea_nil)))) (fun hc H5 f5 => ?_) fun hc H5 f5 => ?_
      · have hc : canGrantP s' b w1.2 = true := hc
        have hg : Vbwbad.grantable s' b w1.2 = true := by
          rw [← canGrant_eq wf1 hbm hvl]
          exact hc
        have hin : Vbwbad.within w1.2 (Vbwbad.free s') = true := by
          unfold Vbwbad.grantable at hg
          rw [Bool.and_eq_true] at hg
          exact hg.1
        rw [again_yes hbo hw1 hg] at he
        have hA5 := hA4.fut f5
        refine q_setb T hA5 f5.fh (ev_hm (res := fun x : Addr × S × B => zBs A (Vbwbad.put x.2.1 x.2.2).batches) ⟨b.id, b.alts, Vbwbad.plus b.holds w1.2, none⟩ hA5 wf1 trivial (by decide +kernel) (ev_var rfl zAt_rfl)
          (ea_cons (ev_meth (P := zBat A ⟨b.id, b.alts, Vbwbad.plus b.holds w1.2, b.want⟩) ((⟨b.id, b.alts, Vbwbad.plus b.holds w1.2, b.want⟩ : B), (none : Option (Nat × Vec))) (ins_bat (by decide +kernel)) pr0 rfl
            (ev_meth (P := zBat A b) (b, Vbwbad.plus b.holds w1.2) (ins_bat (by decide +kernel)) pr0 rfl (ev_var rfl p3) (ea_cons (ev_call (b.holds, w1.2) pr0 (ea_cons (ev_fld hf_held T.c_B T.n_B_held (ev_var rfl p3)) (ea_cons (ev_var rfl p4) ea_nil))) ea_nil))
            (ea_cons (P := zWant A none) ev_non ea_nil)) ea_nil)) (ev_var rfl zAt_rfl) fun H6 F6 fu6 hA6 => ?_
        have hlo6 : H6 lo = some (.lst us) := fu6.hh _ _ (hA4.neL hlo4) (f5.hh _ _ hlo4)
        have flo6 : F6 lo = none := fu6.nw lo (by rw [f5.hh _ _ hlo4]; exact fun z => by cases z) flo4
        have sf6 : Same F' F6 := fxx.ff.trans fu6.ff
        have usl : us.length < sizeLine := by
          rw [← pr.length]
          refine LB_lt (Nat.le_trans hlen ?_)
          have h0 : i < (Vbwbad.ids (Vbwbad.waiting st)).length := (List.getElem?_eq_some_iff.mp hb).1
          have h2 : (Vbwbad.ids (Vbwbad.waiting st)).length ≤ 10 := by
            have e1 : (Vbwbad.ids (Vbwbad.waiting st)).length ≤ st.batches.length := wait_len st
            exact Nat.le_trans e1 wf.few
          show i ≤ 20000
          omega
        refine s_app fu6.fh rfl hlo6 flo6 usl (ev_var rfl (up (sf6 : Same F' F6) (up (Same.refl F') (show zN n y F' from gx)))) fun v7 H7 F7 fu7 p7 f7 s7 => ?_
        refine ⟨F7, ((((FutB.grow fu2 fxx).grow f5).trans fu6).grow fu7).put f7 nlo, (sf.trans sf6).trans fu7.ff, Vbwbad.given s' b w1.2, done ++ [n], us ++ [v7], _, _, _, rfl, (hA6.fut fu7).off (.inr (hA4.neL hlo4)), ?_, ?_, upd_same, f7, ?_, ?_, ?_⟩
        · exact wf_more wf1 hbm hvl hin none (.inr rfl)
        · exact wait_put wt hbi
        · exact paired_app (paired_up (sf6.trans fu7.ff) pr) (.cons p7 .nil)
        · rw [List.length_append]
          show done.length + 1 ≤ i + 1
          omega
        · rw [he]
          show (_, done ++ n :: _) = (_, (done ++ [n]) ++ _)
          rw [List.append_assoc]
          rfl
      · have hc : canGrantP s' b w1.2 = false := hc
        have hg : Vbwbad.grantable s' b w1.2 = false := by
          rw [← canGrant_eq wf1 hbm hvl]
          exact hc
        rw [again_no hbo hw1 hg] at he
        refine ⟨F4, (FutB.grow fu2 fxx).grow f5, sf.trans fxx.ff, s', done, us, _, _, _, rfl, hA4.fut f5, wf1, wait_next wt, f5.hh _ _ hlo4, flo4, paired_up fxx.ff pr, by omega, he⟩
    · rintro σ F' H' ⟨fu2, sf, s', done, us, x2, x3, x4, rfl, hA1, wf1, wt, hl, fl, pr, hlen, he⟩
      rw [List.drop_length] at he
      have e0 : Vbwbad.again [] s' = (s', []) := rfl
      rw [e0] at he
      have er : Vbwbad.reconsidered st = (s', done) := by
        show Vbwbad.again _ _ = _
        rw [he]
        show (s', done ++ []) = _
        rw [List.append_nil]
      have add := FutB.add fu2 nlo hl fl
      refine s_ret (F := upd F' lo (.lst us)) (P := zL zN done) add.fh (ev_var rfl ?_) fun v H4 F4 f4 pv => k v H4 F4 (add.grow f4) ?_ ?_
      · refine ⟨lo, us, rfl, upd_same, paired_up (same_upd (Same.refl _) fl) pr, Nat.le_trans hlen ?_⟩
        have e1 : (Vbwbad.ids (Vbwbad.waiting st)).length ≤ st.batches.length := wait_len st
        have := wf.few
        exact Nat.le_trans e1 (Nat.le_trans this (by decide))
      · show HouseAt A a (Vbwbad.reconsidered st).1 F4 H4
        rw [er]
        refine HouseAt.fut ?_ f4
        obtain ⟨fa, dx, u1, u2, q, p1, p2⟩ := hA1
        refine ⟨?_, dx, u1, u2, q, up (same_upd (Same.refl _) fl) p1, up (same_upd (Same.refl _) fl) p2⟩
        rw [upd_ne (Ne.symm (HouseAt.neL (A := A) (s := s') (F := F') ⟨fa, dx, u1, u2, q, p1, p2⟩ hl))]
        exact fa
      · show zL zN (Vbwbad.reconsidered st).2 v F4
        rw [er]
        exact pv
end
end G
end

section
set_option Elab.async false
set_option linter.all false
set_option maxRecDepth 100000
set_option maxHeartbeats 4000000
namespace G
open PySem PySem.Spec PyProof.Rows L2
section
variable {P : Program} {w : World} {K : PySem.W.Frag} {mg : Str → Option Value} {base : Heap} {A : Adr}
/-! ### objects that change: how they are made -/
def oF (u1 u2 u3 : V) : List (Str × V) := [("batches", u1), ("free_first", u2), ("known", u3)]
def sp_House_init (K : PySem.W.Frag) (A : Adr) : Sp := fun vs H Q _ => ∃ (a dx : Addr) (u : V), vs = [.ref a, u] ∧ H a = some (.ins A.H dx []) ∧
  ∀ (b : Addr) (H2 : Hp), H b = none → H2 a = some (.ins A.H dx (hF u (.ref b) (.int ((0 : Nat) : Int)))) → H2 b = some (.lst []) → (∀ c, c ≠ a → c ≠ b → H2 c = H c) → Q .non H2
def sp_Orders_init (K : PySem.W.Frag) (A : Adr) : Sp := fun vs H Q _ => ∃ (a dx : Addr) (u1 u2 : V), vs = [.ref a, u1, u2] ∧ H a = some (.ins A.O dx []) ∧
  ∀ (b : Addr) (H2 : Hp), H b = none → H2 a = some (.ins A.O dx (oF u1 u2 (.ref b))) → H2 b = some (.dT []) → (∀ c, c ≠ a → c ≠ b → H2 c = H c) → Q .non H2
theorem some_ne {H : Hp} {a b : Addr} {o : HO} (ha : H a = some o) (hb : H b = none) : b ≠ a := fun z => by
  rw [z, ha] at hb
  cases hb
theorem ok_House_init (T : Txt K mg A) : IF P w K mg base CX0 1 A.H "House" ["self", "totals"] (sp_House_init K A) :=
  T.f_House_init.if fun f fd Fn => by
    refine Fn.ok sc_House_init (fun vs H Q E h => ?_) fun cdv B0 outer s H vs Q E hr h => ?_
    · obtain ⟨a, dx, u, rfl, _⟩ := h
      rfl
    · obtain ⟨a, dx, u, rfl, ha, k⟩ := h
      refine ⟨_, (pss_cons (ps_fld (pv 0) (pv 1) rfl)
      (pss_cons (ps_fld (pv 0) (pe_lst pa_nil) rfl)
      (pss_one (ps_fld (pv 0) pe_int rfl)))), ?_⟩
      refine ⟨_, rfl, _, rfl, a, A.H, dx, [], rfl, ha, T.c_H, T.n_H_totals, (by show 0 < 1000; decide), ?_⟩
      refine ⟨Nat.zero_le _, fun b hb => ?_⟩
      have ne : b ≠ a := by
        intro z
        rw [z, upd_same] at hb
        cases hb
      refine ⟨_, rfl, a, A.H, dx, _, rfl, Eq.trans (upd_ne (Ne.symm ne)) upd_same, T.c_H, T.n_H_batches, (by show 1 < 1000; decide), ?_⟩
      have e2 : putF "batches" (.ref b) (putF "totals" u []) = ([("totals", u), ("batches", .ref b)] : List (Str × V)) := (put_past (by decide +kernel)).trans rfl
      rw [e2]
      refine ⟨_, rfl, a, A.H, dx, _, rfl, upd_same, T.c_H, T.n_H_many_waited, (by show 2 < 1000; decide), ?_⟩
      have e3 : putF "many_waited" (.int 0) ([("totals", u), ("batches", .ref b)] : List (Str × V)) = hF u (.ref b) (.int ((0 : Nat) : Int)) := (put_past (by decide +kernel)).trans (congrArg _ ((put_past (by decide +kernel)).trans rfl))
      rw [e3]
      rw [upd_ne ne] at hb
      refine k b _ hb upd_same ?_ fun c h1 h2 => ?_
      · rw [upd_ne ne, upd_ne ne, upd_same]
      · rw [upd_ne h1, upd_ne h1, upd_ne h2, upd_ne h1]
theorem ok_Orders_init (T : Txt K mg A) : IF P w K mg base CX0 1 A.O "Orders" ["self", "batches", "free"] (sp_Orders_init K A) :=
  T.f_Orders_init.if fun f fd Fn => by
    refine Fn.ok sc_Orders_init (fun vs H Q E h => ?_) fun cdv B0 outer s H vs Q E hr h => ?_
    · obtain ⟨a, dx, u1, u2, rfl, _⟩ := h
      rfl
    · obtain ⟨a, dx, u1, u2, rfl, ha, k⟩ := h
      refine ⟨_, (pss_cons (ps_fld (pv 0) (pv 1) rfl)
      (pss_cons (ps_fld (pv 0) (pv 2) rfl)
      (pss_one (ps_fld (pv 0) pe_dnewT rfl)))), ?_⟩
      refine ⟨_, rfl, _, rfl, a, A.O, dx, [], rfl, ha, T.c_O, T.n_O_batches, (by show 0 < 1000; decide), ?_⟩
      refine ⟨_, rfl, _, rfl, a, A.O, dx, _, rfl, upd_same, T.c_O, T.n_O_free_first, (by show 1 < 1000; decide), ?_⟩
      have e2 : putF "free_first" u2 (putF "batches" u1 []) = ([("batches", u1), ("free_first", u2)] : List (Str × V)) := (put_past (by decide +kernel)).trans rfl
      rw [e2]
      refine fun b hb => ?_
      have ne : b ≠ a := by
        intro z
        rw [z, upd_same] at hb
        cases hb
      refine ⟨_, rfl, a, A.O, dx, _, rfl, Eq.trans (upd_ne (Ne.symm ne)) upd_same, T.c_O, T.n_O_known, (by show 2 < 1000; decide), ?_⟩
      have e3 : putF "known" (.ref b) ([("batches", u1), ("free_first", u2)] : List (Str × V)) = oF u1 u2 (.ref b) := (put_past (by decide +kernel)).trans (congrArg _ ((put_past (by decide +kernel)).trans rfl))
      rw [e3]
      rw [upd_ne ne, upd_ne ne] at hb
      refine k b _ hb upd_same ?_ fun c h1 h2 => ?_
      · rw [upd_ne ne, upd_same]
      · rw [upd_ne h1, upd_ne h2, upd_ne h1, upd_ne h1]
/-- what's made anew: x the object, b what it holds that's new -/
theorem made_fut {F1 H1 H2 : Hp} {x dx b : Addr} {ox ob : HO} {o0 o1 : HO} (s : Same F1 H1) (nx : H1 x = none) (nd : H1 dx = none) (hb : L2.upd (L2.upd H1 dx o0) x o1 b = none) (h2 : H2 b = some ob) (hk : ∀ c, c ≠ x → c ≠ b → H2 c = L2.upd (L2.upd H1 dx o0) x o1 c) :
    H1 b = none ∧ b ≠ x ∧ Same H1 H2 ∧ Fut F1 (L2.upd F1 b ob) H1 H2 ∧ (L2.upd F1 b ob) x = none := by
  have n1 : b ≠ x := fun z => by
    rw [z, upd_same] at hb
    cases hb
  have n2 : b ≠ dx := fun z => by
    rw [upd_ne n1, z, upd_same] at hb
    cases hb
  rw [upd_ne n1, upd_ne n2] at hb
  have keep : Same H1 H2 := fun c o e => by
    rw [hk c (ne_of_none e nx) (ne_of_none e hb), upd_ne (ne_of_none e nx), upd_ne (ne_of_none e nd)]
    exact e
  have fb : F1 b = none := same_none s hb
  refine ⟨hb, n1, keep, ⟨same_upd (Same.refl _) fb, fun c o e => ?_, keep, fun c hc hf => ?_⟩, ?_⟩
  · by_cases h : c = b
    · subst h
      rw [upd_same] at e
      cases e
      exact h2
    · rw [upd_ne h] at e
      exact keep c o (s c o e)
  · by_cases h : c = b
    · subst h
      exact absurd hb hc
    · rw [upd_ne h]
      exact hf
  · rw [upd_ne (Ne.symm n1)]
    exact same_none s nx
theorem make_house {σ : L2.St} {F H : Hp} {tr : TA} {l : Vec} {Q : VK} {E : XK} (s : Same F H) (ha : EvA tr σ F H [zV l]) (k : ∀ a H1 F1, Fut F F1 H H1 → H a = none → HouseAt A a ⟨l, [], 0⟩ F1 H1 → Q (.ref a) H1) : tMake A.H (sp_House_init K A) [] E tr σ H Q := by
  refine ha s H (Same.refl _) _ fun vs H1 F1 fu av x dx nx nd ne => ?_
  obtain ⟨u, rfl, p⟩ := av.one
  refine ⟨x, dx, u, rfl, upd_same, fun b H2 hb h1 h2 hk => ⟨rfl, ?_⟩⟩
  obtain ⟨q1, q2, q3, q4, q5⟩ := made_fut (ox := .lst []) fu.fh nx nd hb h2 hk
  have nH : H x = none := by
    cases e : H x with
    | none => rfl
    | some o =>
      rw [fu.hh _ _ e] at nx
      cases nx
  exact k x H2 _ (fu.trans q4) nH ⟨q5, dx, u, .ref b, h1, up q4.ff p, b, [], rfl, upd_same, .nil, Nat.zero_le _⟩
/-- what the memo holds is so -/
def keyOf (left : List Nat) : List Key := left.map fun n : Nat => (.inl (n : Int) : Key)
def Memo (s : S) (kvs : List (List Key × V)) : Prop := (kvs.map (·.1)).Nodup ∧ (∀ key ∈ kvs.map (·.1), ∃ left : List Nat, left.Sublist (List.range s.batches.length) ∧ key = keyOf left) ∧ ∀ left v, valV kvs (keyOf left) = some v → v = .int (manyP s.batches (Vbwbad.free s) left : Nat)
/-- an Orders at o, its memo at k -/
def OrdAt (A : Adr) (o k : Addr) (s : S) (F R : Hp) : Prop := F o = none ∧ F k = none ∧ ∃ dx u1 u2 kvs, R o = some (.ins A.O dx (oF u1 u2 (.ref k))) ∧ R k = some (.dT kvs) ∧ zBs A s.batches u1 F ∧ zV (Vbwbad.free s) u2 F ∧ Memo s kvs
theorem make_orders {σ : L2.St} {F H : Hp} {tr : TA} {st : S} {Q : VK} {E : XK} (s : Same F H) (ha : EvA tr σ F H [zBs A st.batches, zV (Vbwbad.free st)]) (k : ∀ o k H1 F1, Fut F F1 H H1 → H o = none → H k = none → OrdAt A o k st F1 H1 → Q (.ref o) H1) : tMake A.O (sp_Orders_init K A) [] E tr σ H Q := by
  refine ha s H (Same.refl _) _ fun vs H1 F1 fu av x dx nx nd ne => ?_
  obtain ⟨u1, u2, rfl, p1, p2⟩ := av.two
  refine ⟨x, dx, u1, u2, rfl, upd_same, fun b H2 hb h1 h2 hk => ⟨rfl, ?_⟩⟩
  obtain ⟨q1, q2, q3, q4, q5⟩ := made_fut (ox := .lst []) fu.fh nx nd hb h2 hk
  have nn : ∀ {x}, H1 x = none → H x = none := fun {x} nx => by
    cases e : H x with
    | none => rfl
    | some o =>
      rw [fu.hh _ _ e] at nx
      cases nx
  have fx : F1 x = none := same_none fu.fh nx
  have fb : F1 b = none := same_none fu.fh q1
  refine k x b H2 F1 (fu.trans ⟨Same.refl _, fun c o e => q3 c o (fu.fh c o e), q3, fun _ _ n => n⟩) (nn nx) (nn q1) ⟨fx, fb, dx, u1, u2, [], h1, h2, p1, p2, ?_⟩
  exact ⟨List.nodup_nil, fun key h => (by cases h), fun _ _ h => (by cases h)⟩
def sp_House_all_orders (K : PySem.W.Frag) (A : Adr) : Sp := fun vs H Q _ => ∃ (a : Addr) (st : S) (F : Hp), Same F H ∧ vs = [.ref a] ∧ HouseAt A a st F H ∧ WF st ∧ ∀ o k H2 F', Fut F F' H H2 → H o = none → H k = none → OrdAt A o k st F' H2 → Q (.ref o) H2
theorem ok_House_all_orders (T : Txt K mg A) : MF P w K mg base CX0 4 A.H "all_orders" ["self"] (sp_House_all_orders K A) :=
  T.f_House_all_orders.mf fun f fd Fn => by
    refine Fn.ok sc_House_all_orders (fun vs H Q E h => ?_) fun cdv B0 outer s H vs Q E hr h => ?_
    · obtain ⟨a, st, F, _, rfl, _⟩ := h
      rfl
    · obtain ⟨a, st, F, sF, rfl, hA, wf, k⟩ := h
      refine ⟨_, (pss_one (ps_ret (pe_makeF (ok_Orders_init T) (hr.mono (by decide)) pass0 (pa_cons (pe_fld (pv 0) rfl) (pa_cons (pe_methF0 (ok_House_free T) (hr.mono (by decide)) pass0 (pv 0)) pa_nil))))), ?_⟩
      exact make_orders (st := st) sF (ea_cons (ev_bts T hA (ev_var rfl zAt_rfl)) (ea_cons (ev_free hA wf (ev_var rfl zAt_rfl)) ea_nil)) k
end
end G
end

section
set_option Elab.async false
set_option linter.all false
set_option maxRecDepth 100000
set_option maxHeartbeats 4000000
namespace G
open PySem PySem.Spec PyProof.Rows L2
/-! ### Orders -/
theorem sub_len {α : Type} [DecidableEq α] : ∀ {l m : List α}, l.Nodup → (∀ x ∈ l, x ∈ m) → l.length ≤ m.length
  | [], _, _, _ => Nat.zero_le _
  | x :: l, m, nd, h => by
    obtain ⟨n1, n2⟩ := List.nodup_cons.mp nd
    have hx : x ∈ m := h x (by simp)
    have := sub_len (l := l) (m := m.erase x) n2 fun y hy => by
      have ne : y ≠ x := fun z => n1 (by rw [← z]; exact hy)
      exact (List.mem_erase_of_ne ne).mpr (h y (by simp [hy]))
    rw [List.length_erase_of_mem hx] at this
    have h0 : 0 < m.length := List.length_pos_of_mem hx
    rw [List.length_cons]
    omega
theorem sublist_subs {l m : List Nat} (h : l.Sublist m) : l ∈ subs m := by
  induction h with
  | slnil => exact List.mem_singleton.mpr rfl
  | cons a _ ih => exact List.mem_append_right _ ih
  | cons_cons a _ ih => exact List.mem_append_left _ (List.mem_map.mpr ⟨_, ih, rfl⟩)
theorem keyOf_inj {a b : List Nat} (h : keyOf a = keyOf b) : a = b := by
  unfold keyOf at h
  induction a generalizing b with
  | nil =>
    cases b with
    | nil => rfl
    | cons y b => cases h
  | cons x a ih =>
    cases b with
    | nil => cases h
    | cons y b =>
      rw [List.map_cons, List.map_cons] at h
      injection h with h1 h2
      rw [ih h2]
      have : (x : Int) = (y : Int) := by injection h1
      rw [Int.ofNat_inj.mp this]
theorem memo_len {s : S} {kvs : List (List Key × V)} (m : Memo s kvs) (h : s.batches.length ≤ 10) : kvs.length ≤ 1024 := by
  have := sub_len (m := (subs (List.range s.batches.length)).map keyOf) m.1 fun k hk => by
    obtain ⟨left, h1, rfl⟩ := m.2.1 k hk
    exact List.mem_map.mpr ⟨left, sublist_subs h1, rfl⟩
  rw [List.length_map, List.length_map] at this
  exact Nat.le_trans this (subs_small (by rw [List.length_range]; exact h))
theorem memo_put {s : S} {kvs : List (List Key × V)} (m : Memo s kvs) {left : List Nat} (hl : left.Sublist (List.range s.batches.length)) (hn : valV kvs (keyOf left) = none) : Memo s (putK kvs (keyOf left) (.int (manyP s.batches (Vbwbad.free s) left : Nat))) := by
  refine ⟨nd_putK _ m.1 hn, fun key hk => ?_, fun l v h => ?_⟩
  · rw [putK_new _ hn, List.map_append, List.mem_append] at hk
    rcases hk with hk | hk
    · exact m.2.1 key hk
    · exact ⟨left, hl, List.mem_singleton.mp hk⟩
  · rw [valV_put] at h
    by_cases e : keyOf l = keyOf left
    · rw [if_pos e] at h
      rw [keyOf_inj e]
      exact (Option.some.inj h).symm
    · rw [if_neg e] at h
      exact m.2.2 l v h
section
variable {P : Program} {w : World} {K : PySem.W.Frag} {mg : Str → Option Value} {base : Heap} {A : Adr}
theorem tup_key {l : List Nat} {v : V} {F : Hp} (h : zTl zN l v F) : ∃ p, v = .ref p ∧ F p = some (.tup ((keyOf l).map kV)) ∧ l.length ≤ LB := by
  obtain ⟨p, us, rfl, hp, q, z⟩ := h
  rw [paired_nats q] at hp
  refine ⟨p, rfl, ?_, z⟩
  rw [hp]
  unfold keyOf
  rw [List.map_map]
  rfl
theorem zTl_int {l : List Nat} {v : V} {F : Hp} (h : zTl zN l v F) : zTl zI (l.map fun n : Nat => (n : Int)) v F := by
  obtain ⟨p, us, e, hp, q, z⟩ := h
  exact ⟨p, us, e, hp, paired_map (f := zI) (fun n : Nat => (n : Int)) q, by rw [List.length_map]; exact z⟩
theorem zTl_le {α : Type} {f : α → Rp} {l : List α} {v : V} {F' : Hp} (h : zTl f l v F') : l.length ≤ LB := by
  obtain ⟨_, _, _, _, _, z⟩ := h
  exact z
theorem oF_bat {u1 u2 u3 : V} : (oF u1 u2 u3).lookup ("batches" : Str) = some u1 := lk_here
theorem oF_free {u1 u2 u3 : V} : (oF u1 u2 u3).lookup ("free_first" : Str) = some u2 := (lk_past (by decide +kernel)).trans lk_here
theorem oF_known {u1 u2 u3 : V} : (oF u1 u2 u3).lookup ("known" : Str) = some u3 := (lk_past (by decide +kernel)).trans ((lk_past (by decide +kernel)).trans lk_here)
section
variable {o k : Addr} {s : S} {F R : Hp} {σ : L2.St} {ta : TE}
theorem OrdAt.up {F F' R R' : Hp} (h : OrdAt A o k s F R) (s1 : Same F F') (s2 : Same R R') (n : New F F' R) : OrdAt A o k s F' R' := by
  obtain ⟨f1, f2, dx, u1, u2, kvs, q1, q2, p1, p2, m⟩ := h
  exact ⟨n o (by rw [q1]; exact fun z => by cases z) f1, n k (by rw [q2]; exact fun z => by cases z) f2, dx, u1, u2, kvs, s2 _ _ q1, s2 _ _ q2, G.up s1 p1, G.up s1 p2, m⟩
theorem OrdAt.fut {F F' R R' : Hp} (h : OrdAt A o k s F R) (u : Fut F F' R R') : OrdAt A o k s F' R' := h.up u.ff u.hh u.nw
theorem ev_obat (T : Txt K mg A) (h : OrdAt A o k s F R) (ha : Ev ta σ F R (zAt o)) : Ev (tFld K ta "batches") σ F R (zBs A s.batches) := by
  obtain ⟨f1, f2, dx, u1, u2, kvs, q1, q2, p1, p2, m⟩ := h
  exact ev_fldA q1 oF_bat p1 T.c_O T.n_O_batches ha
theorem ev_ofree (T : Txt K mg A) (h : OrdAt A o k s F R) (ha : Ev ta σ F R (zAt o)) : Ev (tFld K ta "free_first") σ F R (zV (Vbwbad.free s)) := by
  obtain ⟨f1, f2, dx, u1, u2, kvs, q1, q2, p1, p2, m⟩ := h
  exact ev_fldA q1 oF_free p2 T.c_O T.n_O_free_first ha
theorem ev_okno (T : Txt K mg A) (h : OrdAt A o k s F R) (ha : Ev ta σ F R (zAt o)) : Ev (tFld K ta "known") σ F R (zAt k) := by
  obtain ⟨f1, f2, dx, u1, u2, kvs, q1, q2, p1, p2, m⟩ := h
  exact ev_fldA (P1 := zAt k) q1 oF_known rfl T.c_O T.n_O_known ha
theorem ins_ord {m : Str} (h : OrdAt A o k s F R) (hm : notIn m ["batches", "free_first", "known"] = true) : InsIn (zAt o) A.O m F R := fun v F' H' _ s2 _ p => by
  obtain ⟨f1, f2, dx, u1, u2, kvs, q1, q2, p1, p2, m⟩ := h
  exact ⟨o, dx, _, p, s2 _ _ q1, lk_none hm⟩
end
/-- a method of Orders that changes nothing -/
abbrev oSp (A : Adr) {α : Type} (args : Addr × Addr × S × α → List Rp) (pre : Addr × Addr × S × α → Prop) (res : Addr × Addr × S × α → Rp) : Sp := FSp (fun x => zAt x.1 :: args x) (fun x F H => OrdAt A x.1 x.2.1 x.2.2.1 F H ∧ WF x.2.2.1 ∧ pre x) res
theorem ev_om {α : Type} {args : Addr × Addr × S × α → List Rp} {pre : Addr × Addr × S × α → Prop} {res : Addr × Addr × S × α → Rp} {o k : Addr} {s : S} {F R : Hp} {σ : L2.St} {ta : TE} {tr : TA} {E : XK} {m : Str} (x : α) (h : OrdAt A o k s F R) (wf : WF s) (hp : pre (o, k, s, x)) (hm : notIn m ["batches", "free_first", "known"] = true) (ha : Ev ta σ F R (zAt o)) [MSs (args (o, k, s, x))] (hr : EvA tr σ F R (args (o, k, s, x))) :
    Ev (tMeth A.O m (oSp A args pre res) [] E ta tr) σ F R (res (o, k, s, x)) :=
  ev_meth (P := zAt o) (o, k, s, x) (ins_ord h hm) (fun F' H' s1 s2 _ n => ⟨h.up s1 s2 n, wf, hp⟩) rfl ha hr
def sp_Orders_free_then (K : PySem.W.Frag) (A : Adr) : Sp := oSp A (α := List Nat) (fun x => [zTl zN x.2.2.2]) (fun _ => True) (fun x => zV (freeThen x.2.2.1.batches (Vbwbad.free x.2.2.1) x.2.2.2))
theorem ok_Orders_free_then (T : Txt K mg A) : MF P w K mg base CX0 3 A.O "free_then" ["self", "left"] (sp_Orders_free_then K A) :=
  T.f_Orders_free_then.mf fun f fd Fn => body_ok Fn sc_Orders_free_then (fun _ => rfl) fun cdv B0 outer s H E hr => by
    refine ⟨_, (pss_one (ps_ret (pe_callF (ok_given_back T) (hr.mono (by decide)) pass0 (pa_cons (pe_fld (pv 0) rfl) (pa_cons (pe_lc (own := [("k", 2), ("batch", 3)]) (g := (gTup K 2 (gCons (gName 2) (gCons (gName 3) gNil)))) (tt := (tTest (tOp (rIn K true) (tVar 2) (tVar 1)))) (te := (tVar 3)) rfl sc_Orders_free_then.nd (pi_enum rfl T.b_enumerate (pa_cons (pe_fld (pv 0) rfl) pa_nil)) (blkOk_by (N := ["self", "left", "k", "batch"]) (sc := defScope s_Orders_free_then) (own := [("k", 2), ("batch", 3)]) (by decide +kernel)) (fun _ _ _ _ _ => (pg_tup rfl (pgs_cons (pg_name (i := 2) sc_Orders_free_then.nd rfl (Or.inl rfl)) (pgs_cons (pg_name (i := 3) sc_Orders_free_then.nd rfl (Or.inl rfl)) pgs_nil)))) (fun _ _ _ _ _ => pts_one (pt_cmpR op_notIn_seq (pv 2) (pv 1) (by rfl))) (fun _ _ _ _ _ => (pv 3))) pa_nil))))), fun x F vs Q sF av pr kk => ?_⟩
    obtain ⟨o, k, st, left⟩ := x
    obtain ⟨u, ul, rfl, p0, p1⟩ := av.two
    obtain rfl : u = .ref o := p0
    obtain ⟨hO, wf, _⟩ := pr
    have hO : OrdAt A o k st F H := hO
    have p1 : zTl zN left ul F := p1
    have hl : st.batches.zipIdx.length ≤ LB := by
      rw [List.length_zipIdx]
      exact Nat.le_trans wf.few (by decide)
    refine s_retk sF kk ?_
    have e1 := ev_lc (r := zBat A) (te := tVar 3) (vs := [2, 3]) (tg := gTup K 2 (gCons (gName 2) (gCons (gName 3) gNil))) (tt := tTest (tOp (rIn K true) (tVar 2) (tVar 1))) (σ := [some (.ref o), some ul, none, none]) (F := F) (R := H)
      (fun x : B × Nat => !left.contains x.2) (fun x => x.1) hl (ei_enum (K := K) (ea_cons (ev_obat T hO (ev_var (i := 0) rfl zAt_rfl)) ea_nil)) fun x hx y F1 R1 s1 s2 s3 g => by
        obtain ⟨v, w, q1, q2, b⟩ := b_two s3 g
        exact ⟨_, b, rfl, et_test (Ev.bl (by rw [mem_int]; rfl) (ev_inT (K := K) (neg := true) (ev_var rfl q1) (ev_var rfl (zTl_int (up s1 p1))))), fun _ => ev_var rfl q2⟩
    have e2 := ev_call (E := E0) (args := fun x : Vec × List B => [zV x.1, zBs A x.2]) (pre := noPre) (res := fun x => zV (givenBack x.1 x.2)) (Vbwbad.free st, (st.batches.zipIdx.filter fun x : B × Nat => !left.contains x.2).map fun x : B × Nat => x.1) pr0 (ea_cons (ev_ofree (ta := tVar 0) (σ := [some (.ref o), some ul, none, none]) T hO (ev_var rfl zAt_rfl)) (ea_cons e1 ea_nil))
    exact e2
def sp_Orders_next_ones (K : PySem.W.Frag) (A : Adr) : Sp := oSp A (α := List Nat) (fun x => [zTl zN x.2.2.2]) (fun x => x.2.2.2.Sublist (List.range x.2.2.1.batches.length)) (fun x => zL zN (nextOnes x.2.2.1.batches (Vbwbad.free x.2.2.1) x.2.2.2))
theorem sub_at {l : List Nat} {n k : Nat} (h : l.Sublist (List.range n)) (hk : k ∈ l) : k < n := List.mem_range.mp (h.subset hk)
theorem ok_Orders_next_ones (T : Txt K mg A) : MF P w K mg base CX0 4 A.O "next_ones" ["self", "left"] (sp_Orders_next_ones K A) :=
  T.f_Orders_next_ones.mf fun f fd Fn => body_ok Fn sc_Orders_next_ones (fun _ => rfl) fun cdv B0 outer s H E hr => by
    refine ⟨_, (pss_cons (ps_set (i := 2) sc_Orders_next_ones.nd rfl (Or.inr rfl) (pe_methF (ok_Orders_free_then T) (hr.mono (by decide)) pass0 (pv 0) (pa_cons (pv 1) pa_nil)))
      (pss_one (ps_ret (pe_lc (own := [("k", 3)]) (g := (gName 3)) (tt := (tB (tMeth A.B "can_end" (sp_Batch_can_end K A) [] E0 (tOp (rIxL K) (tFld K (tVar 0) "batches") (tVar 3)) (tCons (tVar 2) tNil)))) (te := (tVar 3)) rfl sc_Orders_next_ones.nd (pi_tup (pv 1)) (blkOk_by (N := ["self", "left", "free", "k"]) (sc := defScope s_Orders_next_ones) (own := [("k", 3)]) (by decide +kernel)) (fun _ _ _ _ _ => (pg_name (i := 3) sc_Orders_next_ones.nd rfl (Or.inl rfl))) (fun _ _ _ _ _ => pts_one (pt_val (pe_methF (ok_Batch_can_end T) (hr.mono (by decide)) pass0 (pe_ix ix_list (pe_fld (pv 0) rfl) (pv 3) (fun _ _ => rfl)) (pa_cons (pv 2) pa_nil)))) (fun _ _ _ _ _ => (pv 3)))))), fun x F vs Q sF av pr kk => ?_⟩
    obtain ⟨o, k, st, left⟩ := x
    obtain ⟨u, ul, rfl, p0, p1⟩ := av.two
    obtain rfl : u = .ref o := p0
    obtain ⟨hO, wf, hs⟩ := pr
    have hO : OrdAt A o k st F H := hO
    have p1 : zTl zN left ul F := p1
    have hs : left.Sublist (List.range st.batches.length) := hs
    refine q_asg sF (ev_om (res := fun x : Addr × Addr × S × List Nat => zV (freeThen x.2.2.1.batches (Vbwbad.free x.2.2.1) x.2.2.2)) left hO wf trivial (by decide +kernel) (ev_var rfl zAt_rfl) (ea_cons (ev_var rfl p1) ea_nil)) fun u2 H1 F1 fu p2 => ?_
    have hO1 := hO.fut fu
    refine s_retk fu.fh (fun v H2 F' f => kk v H2 F' (fu.trans f)) ?_
    have e1 := ev_lc (r := zN) (te := tVar 3) (vs := [3]) (tg := gName 3) (tt := tB (tMeth A.B "can_end" (sp_Batch_can_end K A) [] E0 (tOp (rIxL K) (tFld K (tVar 0) "batches") (tVar 3)) (tCons (tVar 2) tNil))) (σ := [some (.ref o), some ul, some u2, none]) (F := F1) (R := H1)
      (fun k : Nat => (st.batches[k]?).any (Vbwbad.canEnd (freeThen st.batches (Vbwbad.free st) left))) id (zTl_le p1) (ei_tup (K := K) (ev_var (i := 1) rfl (up fu.ff p1))) fun j hj y F2 R2 s1 s2 s3 g => by
        have hlt := sub_at hs hj
        refine ⟨_, b_name, rfl, ?_, fun _ => ev_var rfl g⟩
        rw [List.getElem?_eq_getElem hlt]
        show EvT _ _ F2 R2 (Vbwbad.canEnd (freeThen st.batches (Vbwbad.free st) left) st.batches[j])
        refine et_B (ev_meth (P := zBat A st.batches[j]) (st.batches[j], freeThen st.batches (Vbwbad.free st) left) (ins_bat (by decide +kernel)) pr0 rfl ?_ (ea_cons (ev_var rfl (up s1 p2)) ea_nil))
        obtain ⟨f1, f2, dx, u1, u2', kvs, q1, q2, p1', p2', m⟩ := hO1
        exact ev_ix (List.getElem?_eq_getElem hlt) rfl (ev_fldA (s2 _ _ q1) oF_bat (up s1 p1') T.c_O T.n_O_batches (ev_var rfl zAt_rfl)) (ev_var rfl g)
    rw [List.map_id] at e1
    exact e1
def sp_less_one (K : PySem.W.Frag) (A : Adr) : Sp := FSp (fun x : List Nat × Nat => [zTl zN x.1, zN x.2]) noPre (fun x => zTl zN (lessOne x.1 x.2))
theorem ok_less_one (T : Txt K mg A) : CF P w K mg base CX0 1 "less_one" ["left", "gone"] (sp_less_one K A) :=
  T.f_less_one.cf fun f fd Fn => body_ok Fn sc_less_one (fun _ => rfl) fun cdv B0 outer s H E hr => by
    refine ⟨_, (pss_one (ps_ret (pe_callTy call_tuple_of rfl T.b_tuple (by decide +kernel) (pa_cons (pe_lc (own := [("k", 2)]) (g := (gName 2)) (tt := (tTest (tOp rNe (tVar 2) (tVar 1)))) (te := (tVar 2)) rfl sc_less_one.nd (pi_tup (pv 0)) (blkOk_by (N := ["left", "gone", "k"]) (sc := defScope s_less_one) (own := [("k", 2)]) (by decide +kernel)) (fun _ _ _ _ _ => (pg_name (i := 2) sc_less_one.nd rfl (Or.inl rfl))) (fun _ _ _ _ _ => pts_one (pt_cmpR op_ne (pv 2) (pv 1) (nomark _))) (fun _ _ _ _ _ => (pv 2))) pa_nil)))), fun x F vs Q sF av _ kk => ?_⟩
    obtain ⟨left, n⟩ := x
    obtain ⟨ul, un, rfl, p1, p2⟩ := av.two
    refine s_retk sF kk ?_
    have e1 := ev_lc (r := zN) (te := tVar 2) (vs := [2]) (tg := gName 2) (tt := tTest (tOp rNe (tVar 2) (tVar 1))) (σ := [some ul, some un, none]) (F := F) (R := H)
      (fun k : Nat => k != n) id (zTl_le p1) (ei_tup (K := K) (ev_var (i := 0) rfl p1)) fun j hj y F2 R2 s1 s2 s3 g =>
        ⟨_, b_name, rfl, et_test (Ev.bl (nat_ne _ _) (ev_neI (ev_var rfl g) (ev_var rfl (up s1 p2)))), fun _ => ev_var rfl g⟩
    rw [List.map_id] at e1
    exact ev_tuple (ea_cons e1 ea_nil)
theorem ev_tupRg {σ : L2.St} {F R : Hp} {ta : TE} {n : Nat} (hn : n ≤ LB) (h : Ev ta σ F R (zN n)) : Ev (tTupRg (tRg1 ta)) σ F R (zTl zN (List.range n)) := fun s H1 h1 Q k => by
  have hn' : n ≤ 20000 := hn
  refine h s H1 h1 _ fun v H2 F1 u1 p => ⟨(n : Int), p, ?_, fun q hq => ?_⟩
  · refine ⟨?_, ?_, ?_, ?_, ?_⟩ <;> omega
  · have u2 := Fut.new (o := HO.tup (rgV 0 (n : Int))) u1.fh hq
    refine k _ _ _ (u1.trans u2) ⟨q, _, rfl, upd_same, ?_, by rw [List.length_range]; exact hn⟩
    unfold rgV
    rw [show ((n : Int) - 0).toNat = n by omega]
    have : ∀ l : List Nat, Paired (fun (a : Nat) u => zN a u (upd F1 q (HO.tup (List.map (fun i : Nat => V.int (0 + (i : Nat))) (List.range n))))) l (l.map fun i : Nat => V.int (0 + (i : Nat))) := by
      intro l
      induction l with
      | nil => exact .nil
      | cons a l ih => exact .cons (by show V.int _ = V.int _; rw [Int.zero_add]) ih
    exact this _
def sp_Orders_all_places (K : PySem.W.Frag) (A : Adr) : Sp := oSp A (α := Unit) (fun _ => []) (fun _ => True) (fun x => zTl zN (List.range x.2.2.1.batches.length))
theorem ok_Orders_all_places (T : Txt K mg A) : MF P w K mg base CX0 1 A.O "all_places" ["self"] (sp_Orders_all_places K A) :=
  T.f_Orders_all_places.mf fun f fd Fn => body_ok Fn sc_Orders_all_places (fun _ => rfl) fun cdv B0 outer s H E hr => by
    refine ⟨_, (pss_one (ps_ret (pe_tupRg rfl rfl T.b_tuple (prg_1 rfl T.b_range (pe_callB call_len_seq rfl T.b_len (by decide +kernel) (pa_cons (pe_fld (pv 0) rfl) pa_nil)))))), fun x F vs Q sF av pr kk => ?_⟩
    obtain ⟨o, k, st, _⟩ := x
    obtain ⟨u, rfl, p0⟩ := av.one
    obtain rfl : u = .ref o := p0
    obtain ⟨hO, wf, _⟩ := pr
    have hO : OrdAt A o k st F H := hO
    have wf : WF st := wf
    have hf := wf.few
    exact s_retk sF kk (ev_tupRg (Nat.le_trans hf (by decide)) (ev_len (K := K) (ea_cons (ev_obat T hO (ev_var rfl zAt_rfl)) ea_nil)))
end
end G
end

section
set_option Elab.async false
set_option linter.all false
set_option maxRecDepth 100000
set_option maxHeartbeats 4000000
namespace G
open PySem PySem.Spec PyProof.Rows L2
theorem FutB.ne {a : Addr} {F F' H H2 : Hp} (u : FutB a F F' H H2) {x : Addr} (h : H x ≠ none) : H2 x ≠ none := by
  by_cases q : x = a
  · subst q
    exact u.al h
  · cases e : H x with
    | none => exact absurd e h
    | some o =>
      rw [u.hh x o q e]
      exact fun z => by cases z
theorem FutB.join {k : Addr} {F F1 F2 H1 H2 H3 : Hp} (a : FutB k F F1 H1 H2) (b : Fut F F2 H2 H3) : FutB k F (uni F1 F2) H1 H3 ∧ Same F1 (uni F1 F2) ∧ Same F2 (uni F1 F2) := by
  have h1 : Same F1 H3 := a.fh.trans b.hh
  have h2 : Same F2 H3 := b.fh
  refine ⟨⟨a.ff.trans (same_uni_l _ _), uni_same h1 h2, fun x o ne e => b.hh _ _ (a.hh x o ne e), fun x hx n => ?_, fun h => same_ne b.hh (a.al h)⟩, same_uni_l _ _, same_uni_r h1 h2⟩
  unfold uni
  rw [a.nw x hx n]
  exact b.nw x (a.ne hx) n
theorem memo_put' {s : S} {kvs : List (List Key × V)} (m : Memo s kvs) {left : List Nat} (hl : left.Sublist (List.range s.batches.length)) : Memo s (putK kvs (keyOf left) (.int (manyP s.batches (Vbwbad.free s) left : Nat))) := by
  cases hn : valV kvs (keyOf left) with
  | none => exact memo_put m hl hn
  | some v =>
    have e : putK kvs (keyOf left) (.int (manyP s.batches (Vbwbad.free s) left : Nat)) = kvs.map (fun kv => if kv.1 = keyOf left then (kv.1, .int (manyP s.batches (Vbwbad.free s) left : Nat)) else kv) := by
      unfold putK
      rw [valV_any, hn]
      rfl
    have ek : (putK kvs (keyOf left) (.int (manyP s.batches (Vbwbad.free s) left : Nat))).map (·.1) = kvs.map (·.1) := by
      rw [e, List.map_map]
      apply List.map_congr_left
      intro p _
      show (if p.1 = keyOf left then _ else p).1 = p.1
      split <;> rfl
    refine ⟨by rw [ek]; exact m.1, by rw [ek]; exact m.2.1, fun l v h => ?_⟩
    rw [valV_put] at h
    by_cases e : keyOf l = keyOf left
    · rw [if_pos e] at h
      rw [keyOf_inj e]
      exact (Option.some.inj h).symm
    · rw [if_neg e] at h
      exact m.2.2 l v h
section
variable {P : Program} {w : World} {K : PySem.W.Frag} {mg : Str → Option Value} {base : Heap} {A : Adr}
section
variable {o k : Addr} {s : S} {F R H : Hp} {σ : L2.St} {ta tb td ty te : TE} {tr : TA}
theorem OrdAt.off {l : Addr} {x : HO} (h : OrdAt A o k s F R) (hl : R l = none ∨ ∃ us, R l = some (.lst us)) : OrdAt A o k s F (upd R l x) := by
  obtain ⟨f1, f2, dx, u1, u2, kvs, q1, q2, p1, p2, m⟩ := h
  have n1 : o ≠ l := fun z => by
    rw [z] at q1
    rcases hl with hl | ⟨us, hl⟩ <;> (rw [hl] at q1; cases q1)
  have n2 : k ≠ l := fun z => by
    rw [z] at q2
    rcases hl with hl | ⟨us, hl⟩ <;> (rw [hl] at q2; cases q2)
  exact ⟨f1, f2, dx, u1, u2, kvs, by rw [upd_ne n1]; exact q1, by rw [upd_ne n2]; exact q2, p1, p2, m⟩
theorem OrdAt.frz {l : Addr} {us : List V} (h : OrdAt A o k s F R) (hl : R l = some (.lst us)) (fl : F l = none) : OrdAt A o k s (upd F l (.lst us)) R := by
  obtain ⟨f1, f2, dx, u1, u2, kvs, q1, q2, p1, p2, m⟩ := h
  have n1 : o ≠ l := fun z => by
    rw [z, hl] at q1
    cases q1
  have n2 : k ≠ l := fun z => by
    rw [z, hl] at q2
    cases q2
  exact ⟨by rw [upd_ne n1]; exact f1, by rw [upd_ne n2]; exact f2, dx, u1, u2, kvs, q1, q2, G.up (same_upd (Same.refl _) fl) p1, G.up (same_upd (Same.refl _) fl) p2, m⟩
theorem OrdAt.nek {l : Addr} {us : List V} (h : OrdAt A o k s F R) (hl : R l = some (.lst us)) : l ≠ k := fun z => by
  obtain ⟨f1, f2, dx, u1, u2, kvs, q1, q2, p1, p2, m⟩ := h
  rw [z, q2] at hl
  cases hl
theorem ev_eqDn {l : List Nat} {neg : Bool} (hl : l.length ≤ 1000) (ha : Ev ta σ F R (zTl zN l)) : Ev (tOp (if neg then rNeD K else rEqD K) ta (tTup tNil)) σ F R (zB (if neg then !l.isEmpty else l.isEmpty)) := fun s H1 h1 Q k =>
  ev_two ha (ev_tup (Ps := []) (Nat.zero_le _) ea_nil) s h1 (Q := Q) fun x y H3 F' u px qx => by
    obtain ⟨p, us, rfl, hp, q, z⟩ := px
    obtain ⟨p2, us2, rfl, hp2, q2⟩ := qx
    cases q2
    rw [paired_nats q] at hp
    have d1 : Dp K H3 (.ref p) (.tuple ((l.map fun n : Nat => (n : Int)).map .int)) := .tup (SqT.of (u.fh _ _ hp)) (dp_ints l)
    have d2 : Dp K H3 (.ref p2) (.tuple []) := .tup (SqT.of (u.fh _ _ hp2)) .nil
    have s1 : SeqAt.shaped (.tuple ((l.map fun n : Nat => (n : Int)).map .int)) = true := by
      unfold SeqAt.shaped
      rw [Bool.and_eq_true]
      refine ⟨by rw [PyData.canLay0]; exact canLayAll_ints _, ?_⟩
      rw [PyData.depth, PySem.W.depth_ints]
      decide
    have s2 : SeqAt.shaped (.tuple []) = true := by decide +kernel
    have e : PyData.eqv (.tuple ((l.map fun n : Nat => (n : Int)).map .int)) (.tuple []) = l.isEmpty := by
      cases l with
      | nil => rfl
      | cons a l => rfl
    cases neg with
    | false => exact ⟨_, _, d1, d2, s1, s2, by rw [e]; exact k _ H3 F' u rfl⟩
    | true => exact ⟨_, _, d1, d2, s1, s2, by rw [e]; exact k _ H3 F' u rfl⟩
theorem ev_dnot {kvs : List (List Key × V)} {left : List Nat} (h : R k = some (.dT kvs)) (hy : Ev ty σ F R (zTl zN left)) (hd : Ev td σ F R (zAt k)) : Ev (tDNotIn ty td) σ F R (zB (!(valV kvs (keyOf left)).isSome)) := fun s H1 h1 Q kk =>
  ev_two hy hd s h1 (Q := Q) (r := fun y x H2 => ∃ a o, x = .ref a ∧ DGet H2 a y o ∧ Q (.bl (!o.isSome)) H2) fun x y H3 F' u px qx => by
    obtain ⟨p, rfl, hp, _⟩ := tup_key px
    have qx : y = .ref k := qx
    exact ⟨k, _, qx, DGet.t (u.hh _ _ (h1 _ _ h)) (u.fh _ _ hp), kk _ H3 F' u rfl⟩
theorem ev_dgt {kvs : List (List Key × V)} {left : List Nat} {P : Rp} [MS P] {v : V} (h : R k = some (.dT kvs)) (hv : valV kvs (keyOf left) = some v) (pv : P v F) (hd : Ev td σ F R (zAt k)) (hy : Ev ty σ F R (zTl zN left)) : Ev (tDGet td ty) σ F R P := fun s H1 h1 Q kk =>
  ev_two hd hy s h1 (Q := Q) (r := fun x y H2 => ∃ a v, x = .ref a ∧ DGet H2 a y (some v) ∧ Q v H2) fun x y H3 F' u qx px => by
    obtain ⟨p, rfl, hp, _⟩ := tup_key px
    have qx : x = .ref k := qx
    refine ⟨k, v, qx, ?_, kk _ H3 F' u (up u.ff pv)⟩
    rw [← hv]
    exact DGet.t (u.hh _ _ (h1 _ _ h)) (u.fh _ _ hp)
end
/-- a method of Orders that adds to the memo -/
def nSp (A : Adr) {α : Type} (args : Addr × Addr × S × α → List Rp) (pre : Addr × Addr × S × α → Prop) (res : Addr × Addr × S × α → Rp) : Sp := fun vs H Q _ => ∃ (x : Addr × Addr × S × α) (F : Hp), Same F H ∧ AllR (zAt x.1 :: args x) vs F ∧ OrdAt A x.1 x.2.1 x.2.2.1 F H ∧ WF x.2.2.1 ∧ pre x ∧
  ∀ v H2 F', FutB x.2.1 F F' H H2 → OrdAt A x.1 x.2.1 x.2.2.1 F' H2 → res x v F' → Q v H2
/-- it is called -/
theorem r_om {α : Type} {args : Addr × Addr × S × α → List Rp} {pre : Addr × Addr × S × α → Prop} {res : Addr × Addr × S × α → Rp} {o k : Addr} {s : S} {F H : Hp} {σ : L2.St} {ta : TE} {tr : TA} {E : XK} {m : Str} {Q : VK} (x : α) (sF : Same F H) (h : OrdAt A o k s F H) (wf : WF s) (hp : pre (o, k, s, x)) (hm : notIn m ["batches", "free_first", "known"] = true) (ha : Ev ta σ F H (zAt o)) [MSs (args (o, k, s, x))] (hr : EvA tr σ F H (args (o, k, s, x)))
    (q : ∀ v H2 F', FutB k F F' H H2 → OrdAt A o k s F' H2 → res (o, k, s, x) v F' → Q v H2) : tMeth A.O m (nSp A args pre res) [] E ta tr σ H Q := by
  refine ha sF H (Same.refl _) _ fun v H2 F1 u1 p1 => ?_
  have p1 : v = .ref o := p1
  subst p1
  obtain ⟨a, dx, fs, e, hh, l⟩ := ins_ord h hm (.ref o) F1 H2 u1.ff u1.hh u1.fh rfl
  refine ⟨a, dx, fs, e, hh, l, hr sF H2 u1.hh _ fun vs H3 F2 u2 av => ?_⟩
  obtain ⟨u, e1, e2⟩ := u1.join u2
  refine ⟨(o, k, s, x), _, u.fh, ?_, h.fut u, wf, hp, fun v H4 F3 u3 o3 r => q v H4 F3 ((FutB.of u).trans u3) o3 r⟩
  rw [List.append_nil]
  exact .cons rfl (MSs.mono e2 av)
/-- [f(x) for x in xs], f adding to the memo -/
theorem s_lcM {α : Type} {wi : TI} {i : Nat} {te : TE} {g : α → Rp} [∀ a, MS (g a)] {as : List α} {σ : L2.St} {F H : Hp} {o k : Addr} {st : S} {Q : VK} (h : α → Nat) (sF : Same F H) (hO : OrdAt A o k st F H) (hl : as.length ≤ LB) (hi : EvI wi σ F H g as)
    (ht : ∀ a ∈ as, ∀ x F1 H1, Same F F1 → Same F1 H1 → OrdAt A o k st F1 H1 → g a x F1 → ∀ Q1 : VK, (∀ v H2 F2, FutB k F1 F2 H1 H2 → OrdAt A o k st F2 H2 → zN (h a) v F2 → Q1 v H2) → te ((wipe σ [i]).set i (some x)) H1 Q1)
    (hw : ∀ x, wipe ((wipe σ [i]).set i (some x)) [i] = wipe σ [i])
    (q : ∀ v H2 F2, FutB k F F2 H H2 → OrdAt A o k st F2 H2 → zL zN (as.map h) v F2 → Q v H2) : tLc wi (gName i) tYes te [i] σ H Q := hi sF H (Same.refl _) _ fun J H2 F' G Y u w hG hy D hD => by
  have fD : F' D = none := same_none u.fh hD
  have hO2 := hO.fut u
  refine lc_it w (fun i Hc => ∃ Fi us, FutB k F' Fi H2 Hc ∧ Fi D = none ∧ Hc D = some (.lst us) ∧ OrdAt A o k st Fi Hc ∧ Paired (fun b v => zN b v Fi) ((as.take i).map h) us) ?_ ?_ ?_ ?_
  · exact ⟨F', [], .of ⟨Same.refl _, same_upd u.fh hD, same_upd (Same.refl _) hD, fun _ _ n => n⟩, fD, upd_same, hO2.off (.inl hD), .nil⟩
  · rintro i Hc _ ⟨Fi, us, fu, _, _, _⟩
    exact hG Hc (fu.ff.trans fu.fh)
  · rintro i' x Hc H' hlt ⟨Fi, us, fu, fd, hd, oO, pr⟩ y
    obtain ⟨Fx, a, ha, fx, gx⟩ := hy i' x Hc H' hlt (fu.ff.trans fu.fh) y
    obtain ⟨j, j1, j2⟩ := fu.join fx
    have dF1 : uni Fi Fx D = none := by
      unfold uni
      rw [fd]
      exact fx.nw D (by rw [hd]; exact fun z => by cases z) fD
    have oO' : OrdAt A o k st (uni Fi Fx) H' := oO.up j1 fx.hh fun b hb hn => by
      unfold uni
      rw [hn]
      exact fx.nw b hb (fu.ff.free hn)
    have hd' : H' D = some (.lst us) := fx.hh _ _ hd
    have elen : us.length ≤ i' := by
      rw [← pr.length, List.length_map, List.length_take]
      exact Nat.min_le_left _ _
    refine ⟨hw x, ht a (List.mem_of_getElem? ha) x _ H' (u.ff.trans j.ff) j.fh oO' (up j2 gx) _ fun v H4 F4 u4 o4 r4 => ?_⟩
    have hne : D ≠ k := oO'.nek hd'
    have hd4 : H4 D = some (.lst us) := u4.hh D _ hne hd'
    have d4 : F4 D = none := u4.nw D (by rw [hd']; exact fun z => by cases z) dF1
    refine ⟨us, hd4, LB_lt (Nat.le_trans elen (Nat.le_trans (Nat.le_of_lt hlt) hl)), F4, us ++ [v], (j.trans u4).put d4 hD, d4, upd_same, o4.off (.inr ⟨_, hd4⟩), ?_⟩
    rw [take_more ha, List.map_append]
    exact paired_app (paired_up (j1.trans u4.ff) pr) (.cons r4 .nil)
  · rintro Hc ⟨Fi, us, fu, fd, hd, oO, pr⟩
    rw [List.take_length] at pr
    refine q _ Hc _ ((FutB.of u).trans (FutB.add fu hD hd fd)) (oO.frz hd fd) ⟨D, us, rfl, upd_same, paired_up (same_upd (Same.refl _) fd) pr, ?_⟩
    rw [List.length_map]
    exact hl
theorem dput_of {td ty tv : TE} {D : Ends} {σ : L2.St} {H : Hp} (h : tv σ H fun v H1 => td σ H1 fun x H2 => ty σ H2 fun y H3 => ∃ a H4, x = .ref a ∧ DPut H3 a y v H4 ∧ D.nx σ H4) : sDPut td ty tv D σ H := h
theorem cb1_of {r : List V → Hp → VK → Prop} {ta : TE} {σ : L2.St} {H : Hp} {Q : VK} (h : ta σ H fun v H1 => r [v] H1 Q) : tCB r (tCons ta tNil) σ H Q := h
def spM (A : Adr) (n : Nat) : Sp := nSp A (α := List Nat) (fun x => [zTl zN x.2.2.2]) (fun x => x.2.2.2.Sublist (List.range x.2.2.1.batches.length) ∧ x.2.2.2.length < n) (fun x => zN (manyP x.2.2.1.batches (Vbwbad.free x.2.2.1) x.2.2.2))
def sp_Orders_many (K : PySem.W.Frag) (A : Adr) : Sp := spM A 12
theorem sub_le {l : List Nat} {n : Nat} (h : l.Sublist (List.range n)) : l.length ≤ n := by
  have := h.length_le
  rw [List.length_range] at this
  exact this
theorem sum_nat : ∀ l : List Nat, (l.map fun n : Nat => (n : Int)).sum = ((l.sum : Nat) : Int)
  | [] => rfl
  | x :: l => by
    rw [List.map_cons, List.sum_cons, List.sum_cons, sum_nat l, Int.natCast_add]
theorem ok_many (T : Txt K mg A) : ∀ n, MF P w K mg base CX0 (4 + n) A.O "many" ["self", "left"] (spM A n)
  | 0 => T.f_Orders_many.mf fun f fd Fn => Fn.ok sc_Orders_many (fun vs H Q E h => by
      obtain ⟨x, F, _, _, _, _, ⟨_, h⟩, _⟩ := h
      exact absurd h (Nat.not_lt_zero _)) fun cdv B0 outer s H vs Q E hr h => by
      obtain ⟨x, F, _, _, _, _, ⟨_, h⟩, _⟩ := h
      exact absurd h (Nat.not_lt_zero _)
  | n + 1 => T.f_Orders_many.mf fun f fd Fn => by
    have ih := ok_many T n
    refine Fn.ok (k := 4 + n) sc_Orders_many (fun vs H Q E h => ?_) fun cdv B0 outer s H vs Q E hr h => ?_
    · obtain ⟨x, F, _, a, _⟩ := h
      rw [a.len]
      rfl
    · obtain ⟨⟨o, k, st, left⟩, F, sF, av, hO, wf, ⟨hs, hlen⟩, kk⟩ := h
      refine ⟨_, (pss_cons (ps_if (pt_cmpR (op_eqD hr.units) (pv 1) (pe_tup pa_nil) (nomark _))
      (pss_one (ps_ret pe_int))
      pss_nil)
      (pss_cons (ps_if (pt_cmp (pc_dnotin (hu_of hr) (pv 1) (pe_fld (pv 0) rfl)) rfl)
      (pss_one (ps_dput (hu_of hr) (pe_fld (pv 0) rfl) (pv 1) (pe_callB (cr_sum rfl) rfl T.b_sum (by decide +kernel) (pa_cons (pe_lc (own := [("k", 2)]) (g := (gName 2)) (tt := tYes) (te := (tMeth A.O "many" (spM A n) [] E0 (tVar 0) (tCons (tCall (sp_less_one K A) [] E0 (tCons (tVar 1) (tCons (tVar 2) tNil))) tNil))) rfl sc_Orders_many.nd (pi_list (pe_methF (ok_Orders_next_ones T) (hr.mono (Nat.le_add_right _ _)) pass0 (pv 0) (pa_cons (pv 1) pa_nil))) (blkOk_by (N := ["self", "left", "k"]) (sc := defScope s_Orders_many) (own := [("k", 2)]) (by decide +kernel)) (fun _ _ _ _ _ => (pg_name (i := 2) sc_Orders_many.nd rfl (Or.inl rfl))) (fun _ _ _ _ _ => pts_nil) (fun _ _ _ _ _ => (pe_methF ih hr pass0 (pv 0) (pa_cons (pe_callF (ok_less_one T) (hr.mono (by omega)) pass0 (pa_cons (pv 1) (pa_cons (pv 2) pa_nil))) pa_nil)))) pa_nil)) rfl))
      pss_nil)
      (pss_one (ps_ret (pe_dget (hu_of hr) (pe_fld (pv 0) rfl) (pv 1) (fun _ _ => rfl)))))), ?_⟩
      obtain ⟨u, ul, rfl, p0, p1⟩ := av.two
      obtain rfl : u = .ref o := p0
      have hO : OrdAt A o k st F H := hO
      have p1 : zTl zN left ul F := p1
      have wf : WF st := wf
      have hs : left.Sublist (List.range st.batches.length) := hs
      have h10 : left.length ≤ 10 := Nat.le_trans (sub_le hs) wf.few
      refine q_when sF (et_test (ev_eqDn (K := K) (neg := false) (by omega) (ev_var rfl p1))) (fun hc H1 f1 => ?_) fun hc H1 f1 => ?_
      · have e : left = [] := by
          cases left with
          | nil => rfl
          | cons a l => cases hc
        subst e
        exact s_ret f1.fh (P := zN 1) ev_int fun v H2 F2 f2 pv => kk v H2 F2 (.of (f1.trans f2)) ((hO.fut f1).fut f2) pv
      · have ne : left ≠ [] := fun z => by
          rw [z] at hc
          cases hc
        have fin : ∀ {F' H' : Hp} {σ2 : Option V}, FutB k F F' H H' → OrdAt A o k st F' H' → (∃ kvs, H' k = some (.dT kvs) ∧ valV kvs (keyOf left) = some (.int (manyP st.batches (Vbwbad.free st) left : Nat))) →
            tRet (tDGet (tFld K (tVar 0) "known") (tVar 1)) { nx := fun _ H' => Q .non H', rt := Q } [some (.ref o), some ul, σ2] H' := by
          rintro F' H' σ2 fu oO ⟨kvs, hk, hv⟩
          exact s_ret fu.fh (P := zN (manyP st.batches (Vbwbad.free st) left)) (ev_dgt hk hv rfl (ev_okno T oO (ev_var rfl zAt_rfl)) (ev_var rfl (up fu.ff p1))) fun v H2 F2 f2 pv => kk v H2 F2 (fu.trans (.of f2)) (oO.fut f2) pv
        have hO1 := hO.fut f1
        obtain ⟨g1, g2, dx, u1, u2, kvs, q1, q2, r1, r2, me⟩ := id hO1
        refine q_if f1.fh (et_B (ev_dnot q2 (ev_var rfl p1) (ev_okno T hO1 (ev_var rfl zAt_rfl)))) (fun hc2 H2 f2 => ?_) fun hc2 H2 f2 => ?_
        · have hO2 := hO1.fut f2
          have e1 : Ev (tMeth A.O "next_ones" (sp_Orders_next_ones K A) [] E0 (tVar 0) (tCons (tVar 1) tNil)) [some (.ref o), some ul, none] F H2 (zL zN (nextOnes st.batches (Vbwbad.free st) left)) := ev_om (res := fun x : Addr × Addr × S × List Nat => zL zN (nextOnes x.2.2.1.batches (Vbwbad.free x.2.2.1) x.2.2.2)) left hO2 wf hs (by decide +kernel) (ev_var rfl zAt_rfl) (ea_cons (ev_var rfl p1) ea_nil)
          refine dput_of (cb1_of ?_)
          refine s_lcM (i := 2) (fun j => manyP st.batches (Vbwbad.free st) (lessOne left j)) f2.fh hO2 (Nat.le_trans (List.length_filter_le _ _) (Nat.le_trans h10 (by decide))) (ei_list (K := K) e1) (fun j hj x F1 H1' s1 s2 oO gx Q1 hq => ?_) (fun x => rfl) fun v H3 F3 fu3 o3 p3 => ?_
          · have hj' := mem_next hj
            have hlt := lessOne_lt hj'
            have hlen : left.length < n + 1 := hlen
            have hln : (lessOne left j).length < n := by omega
            refine r_om (lessOne left j) s2 oO wf ⟨(List.filter_sublist.trans hs), hln⟩ (by decide +kernel) (ev_var rfl zAt_rfl) (ea_cons (ev_call (left, j) pr0 (ea_cons (ev_var rfl (up s1 p1)) (ea_cons (ev_var rfl gx) ea_nil))) ea_nil) hq
          · obtain ⟨pl, us, rfl, hp, lp, zp, pp⟩ := zL_at p3
            rw [paired_nats pp] at hp
            refine ⟨pl, ((nextOnes st.batches (Vbwbad.free st) left).map fun j => manyP st.batches (Vbwbad.free st) (lessOne left j)).map fun n : Nat => (n : Int), rfl, SqL.of (by rw [fu3.fh _ _ hp, List.map_map, List.map_map, List.map_map]; rfl), ?_⟩
            rw [sum_nat, ← manyP_go ne]
            refine (ev_okno T o3 (ev_var (i := 0) rfl zAt_rfl)) fu3.fh H3 (Same.refl _) _ fun x H4 F4 f4 p4 => ?_
            have p4 : x = .ref k := p4
            subst p4
            have o4 := o3.fut f4
            obtain ⟨d1, d2, dx, w1, w2, kv4, c1, c2, s1, s2, me4⟩ := id o4
            obtain ⟨pt, rfl, hpt, _⟩ := tup_key (up (fu3.ff.trans f4.ff) p1)
            refine ⟨.ref pt, rfl, k, _, rfl, DPut.t c2 (f4.fh _ _ hpt) (Nat.lt_of_le_of_lt (memo_len me4 wf.few) (by decide)), ?_⟩
            have fz : FutB k F F4 H (upd H4 k (.dT (putK kv4 (keyOf left) (.int (manyP st.batches (Vbwbad.free st) left : Nat))))) := by
              have b := ((FutB.of (a := k) (f1.trans f2)).trans fu3).trans (.of f4)
              refine ⟨b.ff, fun c z e => ?_, fun c z hc e => ?_, b.nw, fun _ => ?_⟩
              · rw [upd_ne (ne_of_none e d2)]
                exact b.fh c z e
              · rw [upd_ne hc]
                exact b.hh c z hc e
              · rw [upd_same]
                exact fun z => by cases z
            have nk : o ≠ k := fun z => by
              rw [z, c2] at c1
              cases c1
            refine fin fz ⟨d1, d2, dx, w1, w2, _, by rw [upd_ne nk]; exact c1, upd_same, s1, s2, memo_put' me4 hs⟩ ⟨_, upd_same, ?_⟩
            rw [valV_put, if_pos rfl]
        · have hO2 := hO1.fut f2
          cases hv : valV kvs (keyOf left) with
          | none =>
            rw [hv] at hc2
            cases hc2
          | some v =>
            have := me.2.2 left v hv
            subst this
            exact fin (.of (f1.trans f2)) hO2 ⟨kvs, f2.hh _ _ q2, hv⟩
theorem ok_Orders_many (T : Txt K mg A) : MF P w K mg base CX0 16 A.O "many" ["self", "left"] (sp_Orders_many K A) := ok_many T 12
end
end G
end

section
set_option Elab.async false
set_option linter.all false
set_option maxRecDepth 100000
set_option maxHeartbeats 4000000
namespace G
open PySem PySem.Spec PyProof.Rows L2
section
variable {P : Program} {w : World} {K : PySem.W.Frag} {mg : Str → Option Value} {base : Heap} {A : Adr}
theorem body_okN {α : Type} {args : Addr × Addr × S × α → List Rp} {pre : Addr × Addr × S × α → Prop} {res : Addr × Addr × S × α → Rp} {name qual : Str} {st : Stmt} {ps N : List Str} {k : Nat} {f : Addr} {fd : FuncData} (Fn : Fun K name qual st f fd) (S : FnScope N ps (defScope st)) (hl : ∀ x, (args x).length + 1 = ps.length)
    (hb : ∀ (cdv : Value) (A0 : Around) (outer : List Env) (s : Shared) (H : Hp) (E : XK), Room k (A0.deeper (envOfC qual (defScope st) s.heap.objs.size f cdv)) →
      ∃ t, PSs (cxOf CX0 P w K mg base N qual (defScope st) f cdv A0 outer s H E).nox (defBody st) t ∧
        ∀ (o m : Addr) (s : G.S) (x : α) (F : Hp) (vs : List V) (Q : VK), Same F H → AllR (zAt o :: args (o, m, s, x)) vs F → OrdAt A o m s F H → WF s → pre (o, m, s, x) → (∀ v H2 F', FutB m F F' H H2 → OrdAt A o m s F' H2 → res (o, m, s, x) v F' → Q v H2) → t { nx := fun _ H' => Q .non H', rt := Q } (start N vs) H) :
    FnOk P w K mg base CX0 (k + 1) f fd ps (nSp A args pre res) := by
  refine Fn.ok S (fun vs H Q E h => ?_) (fun cdv A0 outer s H vs Q E hr h => ?_)
  · obtain ⟨x, F, _, a, _⟩ := h
    rw [a.len, ← hl x]
    rfl
  · obtain ⟨⟨o, m, st, x⟩, F, s1, av, hA, wf, p, q⟩ := h
    obtain ⟨t, h1, h2⟩ := hb cdv A0 outer s H E hr
    exact ⟨t, h1, h2 o m st x F vs Q s1 av hA wf p q⟩
theorem ev_ixTl {α : Type} {f : α → Rp} [∀ a, MS (f a)] {σ : L2.St} {F R : Hp} {ta tb : TE} {l : List α} {i : Int} {j : Nat} {a : α} (hj : l[j]? = some a) (e : i = (j : Int)) (ha : Ev ta σ F R (zTl f l)) (hb : Ev tb σ F R (zI i)) : Ev (tOp (rIxT K) ta tb) σ F R (f a) := fun s H1 h1 Q k =>
  ev_two ha hb s h1 (Q := Q) fun x y H3 F' u px qx => by
    obtain ⟨p, us, rfl, hp, pp, zp⟩ := px
    obtain ⟨v, hv, pv⟩ := paired_get pp hj
    exact ⟨p, us, i, v, rfl, qx, SqT.of (u.fh _ _ hp), by rw [e]; exact atI_nat hv, k _ H3 F' u pv⟩
def npOf (s : S) (left : List Nat) (m : Nat) : Nat × Nat := nextPlace s.batches (Vbwbad.free s) left m
def sp_Orders_next_place (K : PySem.W.Frag) (A : Adr) : Sp := nSp A (α := List Nat × Nat) (fun x => [zTl zN x.2.2.2.1, zN x.2.2.2.2]) (fun x => x.2.2.2.1.Sublist (List.range x.2.2.1.batches.length) ∧ x.2.2.2.1 ≠ []) (fun x => zT [zN (npOf x.2.2.1 x.2.2.2.1 x.2.2.2.2).1, zN (npOf x.2.2.1 x.2.2.2.1 x.2.2.2.2).2])
theorem ok_Orders_next_place (T : Txt K mg A) : MF P w K mg base CX0 17 A.O "next_place" ["self", "left", "number"] (sp_Orders_next_place K A) :=
  T.f_Orders_next_place.mf fun f fd Fn => body_okN Fn sc_Orders_next_place (fun _ => rfl) fun cdv B0 outer s H E hr => by
    refine ⟨_, (pss_cons (ps_for PassesOwn.never rfl (pi_list (pe_methF (ok_Orders_next_ones T) (hr.mono (by decide)) pass0 (pv 0) (pa_cons (pv 1) pa_nil))) (pg_name (i := 3) sc_Orders_next_place.nd rfl (Or.inl rfl))
      (pss_cons (ps_set (i := 4) sc_Orders_next_place.nd rfl (Or.inl rfl) (pe_methF (ok_Orders_many T) (hr.mono (by decide)) pass0 (pv 0) (pa_cons (pe_callF (ok_less_one T) (hr.mono (by decide)) pass0 (pa_cons (pv 1) (pa_cons (pv 3) pa_nil))) pa_nil)))
      (pss_cons (ps_if (pt_cmpR op_lt (pv 2) (pv 4) (nomark _))
      (pss_one (ps_ret (pe_tup (pa_cons (pv 3) (pa_cons (pv 2) pa_nil)))))
      pss_nil)
      (pss_one (ps_set (i := 2) sc_Orders_next_place.nd rfl (Or.inl rfl) (pe_op op_sub (pv 2) (pv 4)))))))
      (pss_one (ps_ret (pe_tup (pa_cons (pe_ix ix_tup (pv 1) pe_int (fun _ _ => rfl)) (pa_cons pe_int pa_nil)))))), fun o k st x F vs Q sF av hO wf pr kk => ?_⟩
    obtain ⟨left, m⟩ := x
    obtain ⟨u, ul, um, rfl, p0, p1, p2⟩ := av.three
    obtain rfl : u = .ref o := p0
    have p1 : zTl zN left ul F := p1
    obtain rfl : um = .int (m : Nat) := p2
    obtain ⟨hs, hne⟩ := pr
    have hs : left.Sublist (List.range st.batches.length) := hs
    have hne : left ≠ [] := hne
    have h10 : left.length ≤ 10 := Nat.le_trans (sub_le hs) wf.few
    refine q_for sF (ei_list (ev_om (res := fun x : Addr × Addr × S × List Nat => zL zN (nextOnes x.2.2.1.batches (Vbwbad.free x.2.2.1) x.2.2.2)) left hO wf hs (by decide +kernel) (ev_var rfl zAt_rfl) (ea_cons (ev_var rfl p1) ea_nil))) fun H1 F1 fu => ⟨fun i σ F' H' => FutB k F F' H H' ∧ Same F1 F' ∧ OrdAt A o k st F' H' ∧ ∃ (m' : Nat) (x3 x4 : Option V), σ = [some (.ref o), some ul, some (.int (m' : Nat)), x3, x4] ∧
        pick (fun j => manyP st.batches (Vbwbad.free st) (lessOne left j)) (nextOnes st.batches (Vbwbad.free st) left) m = pick (fun j => manyP st.batches (Vbwbad.free st) (lessOne left j)) ((nextOnes st.batches (Vbwbad.free st) left).drop i) m',
      ⟨.of fu, Same.refl _, hO.fut fu, m, none, none, rfl, rfl⟩, fun i σ F' H' q => ⟨q.2.1, q.1.fh⟩, ?_, ?_⟩
    · rintro i j y σ F' Hc F2 H2 hb ⟨fu2, sf, oO, m', x3, x4, rfl, he⟩ fx gx
      have hd : (nextOnes st.batches (Vbwbad.free st) left).drop i = j :: (nextOnes st.batches (Vbwbad.free st) left).drop (i + 1) := by
        rw [← List.getElem_cons_drop (List.getElem?_eq_some_iff.mp hb).1, (List.getElem?_eq_some_iff.mp hb).2]
      rw [hd] at he
      have hj : j ∈ left := mem_next (List.mem_of_getElem? hb)
      have o2 := oO.fut fx
      have p1' : zTl zN left ul F2 := up (fu2.ff.trans fx.ff) p1
      refine b_g (r_om (E := E0) (lessOne left j) fx.fh o2 wf ⟨List.filter_sublist.trans hs, ?_⟩ (by decide +kernel) (ev_var rfl zAt_rfl) (ea_cons (ev_call (left, j) pr0 (ea_cons (ev_var rfl p1') (ea_cons (ev_var rfl gx) ea_nil))) ea_nil) fun v H3 F3 fu3 o3 p3 => ?_)
      · have := lessOne_lt hj
        show (lessOne left j).length < 12
        omega
      · have p3 : v = .int (manyP st.batches (Vbwbad.free st) (lessOne left j) : Nat) := p3
        subst p3
        refine q_when fu3.fh (et_test (Ev.bl (lt_nat _ _) (ev_lt (i := (m' : Nat)) (j := (manyP st.batches (Vbwbad.free st) (lessOne left j) : Nat)) (ev_var rfl rfl) (ev_var rfl rfl)))) (fun hc H4 f4 => ?_) fun hc H4 f4 => ?_
        · have hlt : m' < manyP st.batches (Vbwbad.free st) (lessOne left j) := of_decide_eq_true hc
          have e : npOf st left m = (j, m') := by
            unfold npOf nextPlace
            rw [he]
            unfold pick
            rw [if_pos hlt]
            rfl
          refine s_ret (P := zT [zN (npOf st left m).1, zN (npOf st left m).2]) f4.fh ?_ fun v H5 F5 f5 pv => kk v H5 F5 ((((fu2.grow fx).trans fu3).grow f4).grow f5) ((o3.fut f4).fut f5) pv
          rw [e]
          exact ev_tup (by simp) (ea_cons (ev_var rfl (up fu3.ff gx)) (ea_cons (ev_var rfl rfl) ea_nil))
        · have hge : ¬ m' < manyP st.batches (Vbwbad.free st) (lessOne left j) := of_decide_eq_false hc
          have e1 : ((m' : Nat) : Int) - (manyP st.batches (Vbwbad.free st) (lessOne left j) : Nat) = ((m' - manyP st.batches (Vbwbad.free st) (lessOne left j) : Nat) : Int) := by omega
          refine s_asg f4.fh (Ev.int e1 (ev_sub (ev_var rfl rfl) (ev_var rfl rfl))) fun v H5 F5 f5 p5 => ?_
          have p5 : v = .int ((m' - manyP st.batches (Vbwbad.free st) (lessOne left j) : Nat) : Int) := p5
          subst p5
          refine ⟨F5, (((fu2.grow fx).trans fu3).grow f4).grow f5, ((sf.trans fx.ff).trans fu3.ff).trans f5.ff, (o3.fut f4).fut f5, _, _, _, rfl, ?_⟩
          rw [he]
          show (if _ then _ else _) = _
          rw [if_neg hge]
    · rintro σ F' H' ⟨fu2, sf, oO, m', x3, x4, rfl, he⟩
      rw [List.drop_length] at he
      have e : npOf st left m = (left.headD 0, 0) := by
        unfold npOf nextPlace
        rw [he]
        rfl
      have h0 : left[0]? = some (left.headD 0) := by
        cases left with
        | nil => exact absurd rfl hne
        | cons a l => rfl
      refine s_ret (P := zT [zN (npOf st left m).1, zN (npOf st left m).2]) fu2.fh ?_ fun v H5 F5 f5 pv => kk v H5 F5 (fu2.grow f5) (oO.fut f5) pv
      rw [e]
      refine ev_tup (by simp) (ea_cons ?_ (ea_cons (P := zN 0) ev_int ea_nil))
      exact ev_ixTl h0 rfl (ev_var rfl (up fu2.ff p1)) ev_int
theorem np_mem {s : S} {left : List Nat} {m : Nat} (h : left ≠ []) : (npOf s left m).1 ∈ left := by
  unfold npOf nextPlace
  cases e : pick (fun k => manyP s.batches (Vbwbad.free s) (lessOne left k)) (nextOnes s.batches (Vbwbad.free s) left) m with
  | none =>
    cases left with
    | nil => exact absurd rfl h
    | cons a l => exact List.mem_cons_self ..
  | some x => exact mem_next (pick_mem (k := x.1) (j := x.2) e).1
def sp_Orders_order (K : PySem.W.Frag) (A : Adr) : Sp := nSp A (α := Nat) (fun x => [zN x.2.2.2]) (fun _ => True) (fun x => zBs A ((orderP x.2.2.1.batches (Vbwbad.free x.2.2.1) x.2.2.1.batches.length (List.range x.2.2.1.batches.length) x.2.2.2).filterMap fun i => x.2.2.1.batches[i]?))
theorem ok_Orders_order (T : Txt K mg A) : MF P w K mg base CX0 18 A.O "order" ["self", "number"] (sp_Orders_order K A) :=
  T.f_Orders_order.mf fun f fd Fn => body_okN Fn sc_Orders_order (fun _ => rfl) fun cdv B0 outer s H E hr => by
    refine ⟨_, (pss_cons (ps_set (i := 2) sc_Orders_order.nd rfl (Or.inl rfl) (pe_lst pa_nil))
      (pss_cons (ps_set (i := 3) sc_Orders_order.nd rfl (Or.inl rfl) (pe_methF0 (ok_Orders_all_places T) (hr.mono (by decide)) pass0 (pv 0)))
      (pss_cons (ps_while PassesOwn.never (pt_cmpR (op_neD hr.units) (pv 3) (pe_tup pa_nil) (nomark _))
      (pss_cons (ps_asg (pe_methF (ok_Orders_next_place T) (hr.mono (by decide)) pass0 (pv 0) (pa_cons (pv 3) (pa_cons (pv 1) pa_nil))) (pg_tup rfl (pgs_cons (pg_name (i := 4) sc_Orders_order.nd rfl (Or.inl rfl)) (pgs_cons (pg_name (i := 1) sc_Orders_order.nd rfl (Or.inl rfl)) pgs_nil))))
      (pss_cons (ps_expr (pe_bm PySem.F.plainAttrs_list PySem.F.slot_list_append PySem.F.type_list_append mt_append (pv 2) (pa_cons (pe_ix ix_list (pe_fld (pv 0) rfl) (pv 4) (fun _ _ => rfl)) pa_nil)))
      (pss_one (ps_set (i := 3) sc_Orders_order.nd rfl (Or.inl rfl) (pe_callF (ok_less_one T) (hr.mono (by decide)) pass0 (pa_cons (pv 3) (pa_cons (pv 4) pa_nil))))))))
      (pss_one (ps_ret (pv 2)))))), fun o k st m F vs Q sF av hO wf pr kk => ?_⟩
    obtain ⟨u, um, rfl, p0, p2⟩ := av.two
    obtain rfl : u = .ref o := p0
    have hf := wf.few
    obtain rfl : um = .int (m : Nat) := p2
    refine q_new sF fun lo nlo s0 => ?_
    have flo : F lo = none := same_none sF nlo
    have fu0 : Fut F F H (upd H lo (.lst [])) := Fut.grow sF (same_upd (Same.refl _) nlo)
    have hO0 := hO.fut fu0
    refine q_asg s0 (ev_om (res := fun x : Addr × Addr × S × Unit => zTl zN (List.range x.2.2.1.batches.length)) () hO0 wf trivial (by decide +kernel) (ev_var rfl zAt_rfl) ea_nil) fun u3 H1 F1 fu1 p3 => ?_
    have p3 : zTl zN (List.range st.batches.length) u3 F1 := p3
    have fl1 : F1 lo = none := fu1.nw lo (by rw [upd_same]; exact fun z => by cases z) flo
    refine q_while (m0 := st.batches.length) (fun n σ F' H' => FutB k F F' H H' ∧ OrdAt A o k st F' H' ∧ ∃ (left : List Nat) (m' : Nat) (done : List Nat) (us : List V) (ul : V) (x4 : Option V), σ = [some (.ref o), some (.int (m' : Nat)), some (.ref lo), some ul, x4] ∧ zTl zN left ul F' ∧ left.Sublist (List.range st.batches.length) ∧ n = left.length ∧
        H' lo = some (.lst us) ∧ F' lo = none ∧ Paired (fun b u => zBat A b u F') (done.filterMap fun i => st.batches[i]?) us ∧ (∀ i ∈ done, i < st.batches.length) ∧ done.length + n = st.batches.length ∧
        orderP st.batches (Vbwbad.free st) st.batches.length (List.range st.batches.length) m = done ++ orderP st.batches (Vbwbad.free st) n left m')
      ⟨.of (fu0.trans fu1), hO0.fut fu1, List.range st.batches.length, m, [], [], u3, none, rfl, p3, List.Sublist.refl _, (List.length_range).symm, fu1.hh _ _ upd_same, fl1, .nil, (fun _ h => by cases h), Nat.zero_add _, rfl⟩ ?_
    rintro n σ F' H' ⟨fu2, oO, left, m', done, us, ul, x4, rfl, pl, hs, rfl, hl, fl, pr, hdn, hlen, he⟩
    have h10 : left.length ≤ 10 := Nat.le_trans (sub_le hs) wf.few
    refine ⟨fu2.fh, _, et_test (ev_eqDn (K := K) (neg := true) (by omega) (ev_var rfl pl)), fun hc H1' f1 => ?_, fun hc H1' f1 => ?_⟩
    · have hne : left ≠ [] := fun z => by
        rw [z] at hc
        cases hc
      have o1 := oO.fut f1
      have hmem : (npOf st left m').1 ∈ left := np_mem hne
      have hlt := sub_at hs hmem
      have nd : left.Nodup := List.Nodup.sublist hs List.nodup_range
      have hlo := length_filter_ne nd hmem
      have es : ∃ n', left.length = n' + 1 := ⟨left.length - 1, by
        have : left.length ≠ 0 := fun z => hne (List.eq_nil_of_length_eq_zero z)
        omega⟩
      obtain ⟨n', en⟩ := es
      have hl' : (lessOne left (npOf st left m').1).length = n' := by
        have : (lessOne left (npOf st left m').1).length + 1 = left.length := hlo
        omega
      rw [en] at he
      have e2 : orderP st.batches (Vbwbad.free st) (n' + 1) left m' = (npOf st left m').1 :: orderP st.batches (Vbwbad.free st) n' (lessOne left (npOf st left m').1) (npOf st left m').2 := by
        show (if left = [] then [] else _) = _
        rw [if_neg hne]
        rfl
      rw [e2] at he
      refine r_om (E := E0) (left, m') f1.fh o1 wf ⟨hs, hne⟩ (by decide +kernel) (ev_var rfl zAt_rfl) (ea_cons (ev_var rfl pl) (ea_cons (ev_var rfl rfl) ea_nil)) fun v H3 F3 fu3 o3 p3 => ?_
      obtain ⟨x, y, q1, q2, b⟩ := b_two (K := K) (i := 4) (j := 1) (σ0 := [some (.ref o), some (.int (m' : Nat)), some (.ref lo), some ul, x4]) fu3.fh p3
      have q2 : y = .int ((npOf st left m').2 : Nat) := q2
      subst q2
      refine b H3 _ (Same.refl _) ?_
      have hlo1 : H1' lo = some (.lst us) := f1.hh _ _ hl
      have hlo3 : H3 lo = some (.lst us) := fu3.hh lo _ (o1.nek hlo1) hlo1
      have flo3 : F3 lo = none := fu3.nw lo (by rw [hlo1]; exact fun z => by cases z) fl
      have usl : us.length < sizeLine := by
        rw [← pr.length]
        refine Nat.lt_of_le_of_lt (List.length_filterMap_le _ _) (LB_lt ?_)
        show done.length ≤ 20000
        omega
      refine q_app (P := zBat A st.batches[(npOf st left m').1]) fu3.fh rfl hlo3 flo3 usl (ev_ix (List.getElem?_eq_getElem hlt) rfl (ev_obat T o3 (ev_var rfl zAt_rfl)) (ev_var rfl q1)) fun v7 H7 F7 fu7 p7 f7 s7 => ?_
      have sf7 : Same F' F7 := fu3.ff.trans fu7.ff
      have fz := ((fu2.grow f1).trans fu3).grow fu7
      have hlo7 := fu7.hh _ _ hlo3
      have o7 := (o3.fut fu7).off (l := lo) (x := .lst (us ++ [v7])) (.inr ⟨_, hlo7⟩)
      refine s_asg s7 (ev_call (left, (npOf st left m').1) pr0 (ea_cons (ev_var rfl (up sf7 pl)) (ea_cons (ev_var rfl (up fu7.ff q1)) ea_nil))) fun v8 H8 F8 fu8 p8 => ?_
      have fl8 : F8 lo = none := fu8.nw lo (by rw [upd_same]; exact fun z => by cases z) f7
      refine ⟨n', F8, by omega, (fz.put f7 nlo).grow fu8, o7.fut fu8, lessOne left (npOf st left m').1, _, done ++ [(npOf st left m').1], us ++ [v7], v8, _, rfl, p8, List.filter_sublist.trans hs, hl'.symm, fu8.hh _ _ upd_same, fl8, ?_, ?_, ?_, ?_⟩
      · rw [List.filterMap_append]
        refine paired_app (paired_up (sf7.trans fu8.ff) pr) ?_
        rw [List.filterMap_cons, List.getElem?_eq_getElem hlt]
        exact .cons (up fu8.ff p7) .nil
      · intro i hi
        rw [List.mem_append] at hi
        rcases hi with hi | hi
        · exact hdn i hi
        · rw [List.mem_singleton.mp hi]
          exact hlt
      · rw [List.length_append]
        show done.length + 1 + n' = _
        omega
      · rw [he, List.append_assoc]
        rfl
    · have e : left = [] := by
        cases left with
        | nil => rfl
        | cons a l => cases hc
      subst e
      have e0 : orderP st.batches (Vbwbad.free st) ([] : List Nat).length [] m' = [] := rfl
      rw [e0, List.append_nil] at he
      have fu4 := fu2.grow f1
      have hl4 := f1.hh _ _ hl
      have add := FutB.add fu4 nlo hl4 fl
      refine s_ret (F := upd F' lo (.lst us)) (P := zBs A ((orderP st.batches (Vbwbad.free st) st.batches.length (List.range st.batches.length) m).filterMap fun i => st.batches[i]?)) add.fh (ev_var rfl ?_) fun v H4 F4 f4 pv => kk v H4 F4 (add.grow f4) (((oO.fut f1).frz hl4 fl).fut f4) pv
      rw [he]
      refine ⟨lo, us, rfl, upd_same, paired_up (same_upd (Same.refl _) fl) pr, ?_⟩
      refine Nat.le_trans (List.length_filterMap_le _ _) ?_
      show done.length ≤ 20000
      have : done.length + 0 = st.batches.length := hlen
      omega
end
end G
end

section
set_option Elab.async false
set_option linter.all false
set_option maxRecDepth 100000
set_option maxHeartbeats 4000000
namespace G
open PySem PySem.Spec PyProof.Rows L2
/-! ### the cheapest -/
def encM (x : Nat × List Nat) : PyData := .tuple [.int x.1, .int (x.2.length : Nat), .list ((x.2.map fun n : Nat => (n : Int)).map .int)]
abbrev zM (x : Nat × List Nat) : Rp := zT [zN x.1, zN x.2.length, zL zN x.2]
theorem AllR.three' {P1 P2 P3 : Rp} {us : List V} {F : Hp} (h : AllR [P1, P2, P3] us F) : ∃ a b c, us = [a, b, c] ∧ P1 a F ∧ P2 b F ∧ P3 c F := h.three
theorem dp_M {K : PySem.W.Frag} (x : Nat × List Nat) (u : V) (F : Hp) (h : zM x u F) (H : Hp) (s : Same F H) : Dp K H u (encM x) := by
  obtain ⟨p, us, rfl, hp, q⟩ := h
  obtain ⟨a, b, c, rfl, q1, q2, q3⟩ := q.three
  exact .tup (SqT.of (s _ _ hp)) (.cons (dp_int q1) (.cons (dp_int q2) (.cons (dp_list q3 s) .nil)))
def ltM (p q : Nat × List Nat) : Bool := decide (p.1 < q.1 ∨ (p.1 = q.1 ∧ (p.2.length < q.2.length ∨ (p.2.length = q.2.length ∧ p.2 < q.2))))
theorem lt_M (p q : Nat × List Nat) : PySem.W.dataLt (encM p) (encM q) = ltM p q := by
  unfold encM
  rw [PySem.W.dataLt_tuple, PySem.W.dataLt_cons (by simp [PySem.W.alike]), ← PySem.W.dataLt_tuple]
  have e := lt_C (p.2.length, p.2) (q.2.length, q.2)
  unfold encC at e
  rw [e, PySem.W.dataLt_int]
  have e5 : PyData.eqv (.int (p.1 : Int)) (.int (q.1 : Int)) = decide (p.1 = q.1) := by
    simp only [PyData.eqv]
    rw [Bool.beq_eq_decide_eq]
    exact decide_eq_decide.mpr Int.ofNat_inj
  rw [e5]
  unfold ltM
  by_cases h1 : p.1 = q.1
  · rw [if_pos (by simp [h1])]
    simp [h1]
  · rw [if_neg (by simp [h1])]
    simp [h1]
theorem min_M (bs : List (Nat × List Nat)) : ∀ b0, PySem.W.minD (encM b0) (bs.map encM) = encM (bs.foldl (fun a y => if ltM y a = true then y else a) b0) := by
  unfold PySem.W.minD
  induction bs with
  | nil => exact fun _ => rfl
  | cons y bs ih =>
    intro b0
    rw [List.map_cons, List.foldl_cons, List.foldl_cons, lt_M]
    rw [← ih]
    congr 1
    split <;> rfl
theorem ints_inj : ∀ {a b : List Nat}, (a.map fun n : Nat => (n : Int)).map PyData.int = (b.map fun n : Nat => (n : Int)).map PyData.int → a = b
  | [], [], _ => rfl
  | [], _ :: _, h => by cases h
  | _ :: _, [], h => by cases h
  | x :: a, y :: b, h => by
    rw [List.map_cons, List.map_cons, List.map_cons, List.map_cons] at h
    injection h with h1 h2
    injection h1 with h1
    rw [ints_inj h2, Int.ofNat_inj.mp h1]
theorem encM_inj {a b : Nat × List Nat} (h : encM a = encM b) : a = b := by
  unfold encM at h
  injection h with h
  injection h with h1 h
  injection h with _ h
  injection h with h3 _
  injection h1 with h1
  injection h3 with h3
  obtain ⟨a1, a2⟩ := a
  obtain ⟨b1, b2⟩ := b
  have e1 : a1 = b1 := Int.ofNat_inj.mp h1
  have e2 : a2 = b2 := ints_inj h3
  rw [e1, e2]
theorem al_M (l : List (Nat × List Nat)) : PySem.W.AlikeAll (l.map encM) := by
  refine ⟨fun x hx y hy => ?_, fun x hx => ?_⟩
  · obtain ⟨p, _, rfl⟩ := List.mem_map.mp hx
    obtain ⟨q, _, rfl⟩ := List.mem_map.mp hy
    simp only [encM, PySem.W.alike, PySem.W.alikeAll, Bool.true_and, Bool.and_true]
    exact PySem.W.alike_ints _ _
  · obtain ⟨p, _, rfl⟩ := List.mem_map.mp hx
    exact fun z => by cases z
theorem de_M (x : Nat × List Nat) : (encM x).depth = 2 := by
  have := PySem.W.depth_ints (x.2.map fun n : Nat => (n : Int))
  unfold encM
  rw [PyData.depth, PyData.depthAll, PyData.depthAll, PyData.depthAll, PyData.depthAll, PyData.depth, PyData.depth, PyData.depth, this]
  decide
theorem dz_M : ∀ l : List (Nat × List Nat), PyData.depthAll (l.map encM) ≤ 10
  | [] => by
    show PyData.depthAll [] ≤ 10
    rw [PyData.depthAll]
    decide
  | x :: l => by
    rw [List.map_cons, PyData.depthAll, de_M]
    have := dz_M l
    omega
def costAt (cs : List (Nat × Nat)) (n : Nat) : Nat := ((cs.find? fun c => c.1 == n).map fun c => c.2).getD 0
theorem cost_sum (cs : List (Nat × Nat)) (l : List Nat) : Vbwbad.costOf cs l = (l.map (costAt cs)).sum := by
  unfold Vbwbad.costOf
  have := foldl_add (costAt cs) l 0
  rw [Nat.zero_add] at this
  exact this
/-- a dict of costs -/
def zCst (cs : List (Nat × Nat)) : Rp := fun v F => ∃ p kvs, v = .ref p ∧ F p = some (.dK kvs) ∧ ∀ n : Nat, (valV kvs (.inl (n : Int) : Key)).getD (.int 0) = .int (costAt cs n : Nat)
instance {cs : List (Nat × Nat)} : MS (zCst cs) := ⟨fun s ⟨p, kvs, e, h, q⟩ => ⟨p, kvs, e, s _ _ h, q⟩⟩
section
variable {P : Program} {w : World} {K : PySem.W.Frag} {mg : Str → Option Value} {base : Heap} {A : Adr}
theorem ev_dget2 {cs : List (Nat × Nat)} {n : Nat} {σ : L2.St} {F R : Hp} {td ty : TE} (hd : Ev td σ F R (zCst cs)) (hy : Ev ty σ F R (zN n)) : Ev (tDGet2 td ty (tC (.int 0))) σ F R (zN (costAt cs n)) := fun s H1 h1 Q k =>
  hd s H1 h1 _ fun x H2 F1 u1 p1 => by
    obtain ⟨p, kvs, rfl, hp, hv⟩ := p1
    refine ⟨p, rfl, .inl ⟨kvs, .inl (u1.fh _ _ hp)⟩, hy s H2 (h1.trans u1.hh) _ fun y H3 F2 u2 p2 => ?_⟩
    have p2 : y = .int (n : Int) := p2
    subst p2
    obtain ⟨u, e1, e2⟩ := u1.join u2
    refine ⟨_, DGet.k (k := (.inl (n : Int) : Key)) (u2.hh _ _ (u1.fh _ _ hp)), ?_⟩
    rw [hv n]
    exact k _ H3 _ u rfl
theorem best_M (c : List Nat → Nat) (l : List (List Nat)) : ∀ x, (l.map fun y => (c y, y)).foldl (fun a y => if ltM y a = true then y else a) (c x, x) = (c (l.foldl (fun a y => if ltC c y a = true then y else a) x), l.foldl (fun a y => if ltC c y a = true then y else a) x) := by
  induction l with
  | nil => exact fun _ => rfl
  | cons y l ih =>
    intro x
    rw [List.map_cons, List.foldl_cons, List.foldl_cons]
    have e : ltM (c y, y) (c x, x) = ltC c y x := rfl
    rw [e, ← ih]
    congr 1
    split <;> rfl
def inCheap : Scope := { kind := .function, names := [(".0", .local), ("gone", .local), ("sum", .globalImplicit), ("len", .globalImplicit), ("costs", .cell)], isGenerator := false, isCoroutine := false, more := [] }
def sp_House_cheapest (K : PySem.W.Frag) (A : Adr) : Sp := hSp A (α := List (Nat × Nat)) (fun x => [zCst x.2.2]) (fun _ => True) (fun x => zT [zN (Vbwbad.costOf x.2.2 (Vbwbad.cheapest x.2.1 x.2.2)), zL zN (Vbwbad.cheapest x.2.1 x.2.2)])
theorem ok_House_cheapest (T : Txt K mg A) : MF P w K mg base CX0 8 A.H "cheapest" ["self", "costs"] (sp_House_cheapest K A) :=
  T.f_House_cheapest.mf fun f fd Fn => body_ok Fn sc_House_cheapest (fun _ => rfl) fun cdv B0 outer s H E hr => by
    refine ⟨_, (pss_cons (ps_setLc (i := 2) (own := [("gone", 4)]) (g := (gName 4)) (tt := tYes) (te := (tTup (tCons (tCB (rSum K) (tCons (tLc (iList K (tVar 4)) (gName 3) tYes (tDGet2 (tVar 1) (tVar 3) (tC (.int 0))) [3]) tNil)) (tCons (tCB (fun xs H Q => ∃ p ys, xs = [.ref p] ∧ (SqL K H p ys ∨ SqT K H p ys) ∧ Q (.int ys.length) H) (tCons (tVar 4) tNil)) (tCons (tVar 4) tNil))))) rfl sc_House_cheapest.nd rfl rfl (sw_true rfl rfl rfl (by decide +kernel)) (pi_list (pe_methF0 (ok_House_all_victims T) (hr.mono (by decide)) pass0 (pv 0))) (blkOk_by (N := ["self", "costs", "some", "number", "gone", "cost", "many"]) (sc := defScope s_House_cheapest) (own := [("gone", 4)]) (by decide +kernel)) (fun _ _ _ _ _ => (pg_name (i := 4) sc_House_cheapest.nd rfl (Or.inl rfl))) (fun _ _ _ _ _ => pts_nil) (fun _ _ _ _ _ => (pe_tup (pa_cons (pe_callB (cr_sum rfl) rfl T.b_sum (by decide +kernel) (pa_cons (pe_lc (own := [("number", 3)]) (g := (gName 3)) (tt := tYes) (te := (tDGet2 (tVar 1) (tVar 3) (tC (.int 0)))) rfl sc_House_cheapest.nd (pi_list (pv 4)) (blkOk_by (N := ["self", "costs", "some", "number", "gone", "cost", "many"]) (sc := inCheap) (own := [("number", 3)]) (by decide +kernel)) (fun _ _ _ _ _ => (pg_name (i := 3) sc_House_cheapest.nd rfl (Or.inl rfl))) (fun _ _ _ _ _ => pts_nil) (fun _ _ _ _ _ => (pe_dget2 (hu_of hr) (pv 1) (pv 3) pe_int ⟨rfl, rfl, rfl, rfl⟩))) pa_nil)) (pa_cons (pe_callB call_len_seq rfl T.b_len (by decide +kernel) (pa_cons (pv 4) pa_nil)) (pa_cons (pv 4) pa_nil))))))
      (pss_cons (ps_asg (pe_callB (cr_minD encM rfl hr.units) rfl T.b_min (by decide +kernel) (pa_cons (pv 2) pa_nil)) (pg_tup rfl (pgs_cons (pg_name (i := 5) sc_House_cheapest.nd rfl (Or.inl rfl)) (pgs_cons (pg_name (i := 6) sc_House_cheapest.nd rfl (Or.inl rfl)) (pgs_cons (pg_name (i := 4) sc_House_cheapest.nd rfl (Or.inl rfl)) pgs_nil)))))
      (pss_one (ps_ret (pe_tup (pa_cons (pv 5) (pa_cons (pv 4) pa_nil))))))), fun x F vs Q sF av pr k => ?_⟩
    obtain ⟨a, st, cs⟩ := x
    obtain ⟨u, uc, rfl, p0, p1⟩ := av.two
    obtain rfl : u = .ref a := p0
    obtain ⟨hA, wf, _⟩ := pr
    have hA : HouseAt A a st F H := hA
    have wf : WF st := wf
    have p1 : zCst cs uc F := p1
    have hids : (Vbwbad.sortedIds st).length ≤ 10 := by
      rw [sortedIds_len]
      exact wf.few
    have e0 := ev_hm (res := fun x : Addr × S × Unit => zL (zL zN) (victimsP x.2.1)) (pre := fun _ => True) (args := fun _ => []) (E := E0) (m := "all_victims") (ta := tVar 0) (tr := tNil) (σ := [some (.ref a), some uc, none, none, none, none, none]) () hA wf trivial (by decide +kernel) (ev_var rfl zAt_rfl) ea_nil
    have hl : (victimsP st).length ≤ LB := Nat.le_trans (List.length_filter_le _ _) (by rw [allP_len]; exact Nat.le_trans (subs_small hids) (by decide))
    have e1 := ev_lcA (r := zM) (te := tTup (tCons (tCB (rSum K) (tCons (tLc (iList K (tVar 4)) (gName 3) tYes (tDGet2 (tVar 1) (tVar 3) (tC (.int 0))) [3]) tNil)) (tCons (tCB (fun xs H Q => ∃ p ys, xs = [.ref p] ∧ (SqL K H p ys ∨ SqT K H p ys) ∧ Q (.int ys.length) H) (tCons (tVar 4) tNil)) (tCons (tVar 4) tNil)))) (vs := [4]) (tg := gName 4) (fun l : List Nat => (Vbwbad.costOf cs l, l)) hl (ei_list (K := K) e0) fun l hl y F1 R1 s1 s2 s3 g => by
      refine ⟨_, b_name, rfl, ev_tup (by simp) (ea_cons ?_ (ea_cons (ev_len (K := K) (ea_cons (ev_var rfl g) ea_nil)) (ea_cons (ev_var rfl g) ea_nil)))⟩
      have e2 := ev_lcA (r := zI) (te := tDGet2 (tVar 1) (tVar 3) (tC (.int 0))) (vs := [3]) (tg := gName 3) (σ := [some (.ref a), some uc, none, none, some y, none, none]) (F := F1) (R := R1) (fun n : Nat => ((costAt cs n : Nat) : Int)) (zL_le g) (ei_list (K := K) (ev_var (i := 4) rfl g)) fun n hn z F2 R2 t1 t2 t3 g2 =>
        ⟨_, b_name, rfl, ev_dget2 (ev_var rfl (up t1 (up s1 p1))) (ev_var rfl g2)⟩
      have e3 := ev_sum (K := K) (ea_cons e2 ea_nil)
      rw [cost_sum]
      have es : (l.map fun n : Nat => ((costAt cs n : Nat) : Int)).sum = (((l.map (costAt cs)).sum : Nat) : Int) := by
        rw [← sum_nat, List.map_map]
        rfl
      exact Ev.int es e3
    refine q_asg sF e1 fun u2 H1 F1 fu1 p2 => ?_
    have hne := victims_ne st
    obtain ⟨x0, r0, ev⟩ : ∃ x0 r0, victimsP st = x0 :: r0 := by
      cases e : victimsP st with
      | nil => exact absurd e hne
      | cons x r => exact ⟨x, r, rfl⟩
    have ec : Vbwbad.cheapest st cs = r0.foldl (fun a y => if ltC (Vbwbad.costOf cs) y a = true then y else a) x0 := by
      rw [cheapest_eq wf, ev]
      rfl
    have p2 : zL zM ((Vbwbad.costOf cs x0, x0) :: r0.map fun l => (Vbwbad.costOf cs l, l)) u2 F1 := by
      have q : zL zM ((victimsP st).map fun l => (Vbwbad.costOf cs l, l)) u2 F1 := p2
      rw [ev] at q
      exact q
    have e4 := ev_minD (K := K) (enc := encM) (g := zM) (P := zM (Vbwbad.costOf cs (Vbwbad.cheapest st cs), Vbwbad.cheapest st cs)) (σ := [some (.ref a), some uc, some u2, none, none, none, none]) (F := F1) (R := H1) (fun b u F' h H' s => dp_M b u F' h H' s) (al_M _) (dz_M _) (fun b u F' he hg => by
      rw [min_M, best_M] at he
      rw [encM_inj he, ← ec] at hg
      exact hg) (ea_cons (ev_var (i := 2) rfl p2) ea_nil)
    refine e4 fu1.fh H1 (Same.refl _) _ fun v H2 F2 fu2 p4 => ?_
    obtain ⟨p, us, rfl, hp, q⟩ := p4
    obtain ⟨v1, v2, v3, rfl, q1, q2, q3⟩ := q.three
    refine ⟨p, _, rfl, SqT.of (fu2.fh _ _ hp), rfl, v1, _, rfl, v2, _, rfl, v3, _, rfl, rfl, ?_⟩
    exact s_retk fu2.fh (fun v H3 F3 f3 => k v H3 F3 ((fu1.trans fu2).trans f3)) (ev_tup (by simp) (ea_cons (ev_var rfl q1) (ea_cons (ev_var rfl q3) ea_nil)))
end
end G
end

section
set_option Elab.async false
set_option linter.all false
set_option maxRecDepth 100000
set_option maxHeartbeats 4000000
namespace G
open PySem PySem.Spec PyProof.Rows L2
/-! ### Refused: an own class of errors over Exception; its __init__ says Exception.__init__(self, 'refused'), then self.number = number -/
/-- what the top has left of it -/
structure RefT (K : PySem.W.Frag) (mg : Str → Option Value) (C : Addr) : Prop where
  gC : mg "Refused" = some (.ref C)
  cls : ∃ nm q N bs sn sub ab col dd k0 k1 k2 k3 k5, K.lookup C = some (excClassObj nm q C N bs PySem.ESX.exTail true sn sub ab col dd k0 k1 k2 k3 k5 "Exception.__new__")
  sa : PySem.W.findIn K (.ref C) "__setattr__" = some (some (.builtin "object.__setattr__"))
  xf : XfC K C
  noN : PySem.W.findIn K (.ref C) "number" = some none
  tyC : PySem.W.typeIn K (.ref C) = some (.type "type")
  kC : PySem.W.keepIn K (.ref C) = true
  te : PySem.W.exmOne K (.ref C) (.ref C) = some true
  fn : ∃ f fd, Fun K "__init__" "Refused.__init__" s_Refused_init f fd ∧ Binds K fd ["self", "number"] [] ∧ PySem.W.findIn K (.ref C) "__init__" = some (some (.ref f)) ∧ PySem.W.typeIn K (.ref f) = some (.type "function")
  vE : PySem.W.findCls K (.type "Exception") (.type "type") "__init__" = some (.val (.builtin "Exception.__init__"))
  gE : mg "Exception" = none
theorem typ_Ex : typeOf (.type "Exception") = pure (.type "type") := by kernel_rfl
theorem ex_has : ∀ X : String, PySem.ESX.exTail.contains (.type X) = ([.type "Exception", .type "BaseException", .type "object"] : List Value).contains (.type X) := fun _ => rfl
section
variable {X : Cx} {pins : List (Addr × Obj)} {σ : L2.St} {H : Hp} {s : Shared} {a C : Addr} {f : Str} {y : V} {u : Value} {E : Value → Shared → Prop} {A : Around}
/-- self.number = y on an error that is being made -/
theorem rset_new {Q : Unit → Shared → Prop} (T : RefT X.K X.mg C) (I : Inv X pins σ H s) (e : H a = some (exo a C none)) (ry : RelV y u)
    (h : ∀ dx s', H dx = none → dx ≠ a → Inv X pins σ (upd (upd H dx (exd dx [(("number" : Str), y)])) a (exo a C (some dx))) s' → Q () s') : wpAny (model X.prog X.w) A (setAttr (.ref a) "number" u) Q E s := by
  obtain ⟨nm, q, N, bs, sn, sub, ab, col, dd, k0, k1, k2, k3, k5, hC⟩ := T.cls
  have hcl : PySem.W.clsIn X.K C = some { name := nm, bases := bs, mro := .ref C :: PySem.ESX.exTail, ns := N, qualname := q, hasDict := true, slotNames := sn, subclasses := sub, abstract := ab, collection := col, hasDel := false } := by unfold PySem.W.clsIn; rw [hC] <;> rfl
  obtain ⟨t1, ho⟩ := exo_at I.hok e
  obtain ⟨hp, g, d, t, os⟩ := s
  refine PySem.W.set_plain I.kIn (ox := { cls := .ref C, dict := none, data := .fields #[.ref t1, .none, .none, .none, .bool false, .none] }) (od := none) ⟨ho, rfl, rfl, trivial⟩ T.sa ?_
  refine PySem.ESX.osa_new I.kIn ho hcl rfl rfl T.noN (fun h' tk' dx k dn dne hx hn => ?_)
  have hnd : H dx = none := I.hok.fresh dn
  have nd : ∀ {b : Addr} {o : Obj}, hp.get? b = some o → b ≠ dx := fun {b o} q => Nat.ne_of_lt (Nat.lt_of_lt_of_le (Heap.lt_size q) dn)
  have na : ∀ {b : Addr}, H b = none → b ≠ a := fun {b} n z => by
    rw [z, e] at n
    cases n
  have U : Un X.fs [] H (upd (upd H dx (exd dx [(("number" : Str), y)])) a (exo a C (some dx))) hp h' := {
    keep := fun b o q n _ _ => k b o (na n) q
    slot := fun b o q n _ _ => ⟨o.slots, k b o (na n) q⟩
    free := fun b o q n _ => by rw [upd_ne (na n), upd_ne (nd q)]; exact n
    there := fun b o q _ => by
      by_cases hb : b = a
      · exact ⟨_, by rw [hb]; exact hx⟩
      · exact ⟨o, k b o hb q⟩
    tups := fun b xs q => by rw [upd_ne (at_ne e q exo_tup), upd_ne (ne_of_none q hnd)]; exact q
    frzs := fun b o v q => by rw [upd_ne (at_ne e q exo_frz), upd_ne (ne_of_none q hnd)]; exact q
    tbls := fun b ps q => ⟨#[], by rw [upd_ne (at_ne e q exo_tbl), upd_ne (ne_of_none q hnd), q]; simp⟩ }
  refine h dx _ hnd dne (I.un (t' := tk') U fun b o q => ?_)
  by_cases hb : b = a
  · subst hb
    rw [upd_same] at q
    cases q
    exact exo_ok hx
  · rw [upd_ne hb] at q
    by_cases hd : b = dx
    · subst hd
      rw [upd_same] at q
      cases q
      exact exd_ok hn (relO_put (fs := []) ry fun g => True.intro)
    · rw [upd_ne hd] at q
      exact (I.hok b o q).stay (fun c v hc z => k c v (by
          rcases hc with hc | hc
          · rw [hc]
            exact hb
          · exact at_ne e hc exo_own) z)
        (fun c hc => by rw [upd_ne (at_ne e hc exo_own), upd_ne (ne_of_none hc hnd)]; exact hc) (fun c xs hc => by rw [upd_ne (at_ne e hc exo_tup), upd_ne (ne_of_none hc hnd)]; exact hc)
/-- Exception.__init__(self, ..) -/
theorem rinit_ok {us : List Value} {Q : Value → Shared → Prop} (T : RefT X.K X.mg C) (I : Inv X pins σ H s) (e : H a = some (exo a C none)) (hl : us.length ≤ sizeLine) (h : ∀ s', Inv X pins σ H s' → Q .none s') :
    wpAny (model X.prog X.w) A (call (.builtin "Exception.__init__") (.ref a :: us)) Q E s := by
  obtain ⟨nm, q, N, bs, sn, sub, ab, col, dd, k0, k1, k2, k3, k5, hC⟩ := T.cls
  obtain ⟨t1, ho⟩ := exo_at I.hok e
  obtain ⟨hp, g, d, t, os⟩ := s
  refine wpAny_call (PySem.HandSPX.init_base F.excBase_Exception ex_has (I.kIn _ _ hC) ho hl fun h' t2 k hx => ?_)
  have J := I.write (t' := t) (x := a) (e := a) (o := exo a C none) (by rw [e]; exact True.intro) (.inl rfl) k ⟨_, hx⟩ (exo_ok hx)
  have eu : upd H a (exo a C none) = H := by
    funext b
    by_cases hb : b = a
    · rw [hb, upd_same, e]
    · rw [upd_ne hb]
  rw [eu] at J
  exact h _ J
end
def tRi (C : Addr) (ta : TA) : TE := fun σ H Q => ta σ H fun vs H1 => ∃ (a : Addr) (ws : List V), vs = .ref a :: ws ∧ ws.length ≤ 1000 ∧ H1 a = some (exo a C none) ∧ Q .non H1
def tRset (C : Addr) (to te : TE) : TS := fun D σ H => te σ H fun y H1 => to σ H1 fun x H2 => ∃ a : Addr, x = .ref a ∧ H2 a = some (exo a C none) ∧ ∀ dx, H2 dx = none → dx ≠ a → D.nx σ (upd (upd H2 dx (exd dx [(("number" : Str), y)])) a (exo a C (some dx)))
section
variable {X : Cx} {C : Addr} {o e : Expr} {es : List Expr} {to te : TE} {ta : TA} {p p' p1 p2 pos : Pos}
theorem pe_rinit {pl : Sem Bool} (T : RefT X.K X.mg C) (ha : PA X (e :: es) ta) (hg : Gl X "Exception" := by rfl)
    (hc : eval (.Call (.Attribute (.Name "Exception" p1) "__init__" p2) (e :: es) [] pos) X.env = (do
      let ov ← eval (.Name "Exception" p1) X.env
      standAt p2.atName
      let (f, first) ← holding [ov] (getMethod ov "__init__" pl)
      callWith pos f first (backTo pos (starEach (e :: es) X.env)) (backToKw pos (keywordEach [] X.env))) := by rfl)
    (he : starEach (e :: es) X.env = (false, eval e X.env) :: starEach es X.env := by rfl) (hpl : (backTo pos (starEach es X.env)).any (·.1) = false := by rfl) :
    PE X (.Call (.Attribute (.Name "Exception" p1) "__init__" p2) (e :: es) [] pos) (tRi C ta) := by
  refine ⟨fun pins s σ H Q I h => ?_⟩
  refine PySem.W.methodCall_KW (ld_blt I hg T.gE PyProof.Rows.Boot.«Exception» ?_ (by decide) (by decide)) hc
  obtain ⟨m, fr⟩ := I.fr
  refine PySem.W.method_type fr I.ok.mod.kin typ_Ex (by decide +kernel) T.vE (by decide +kernel) ?_
  show wpAny _ _ (callWith pos (Value.builtin "Exception.__init__") [] (backTo pos (starEach (e :: es) X.env)) []) _ _ _
  refine PyProof.Rows.callWith_method1 (thn (ha.run pos pins _ σ H _ (I.tok _) h) fun us s1 ⟨vs, H1, I1, r1, a, ws, ev, hl, ea, q⟩ => ?_) he hpl
  subst ev
  cases r1 with
  | @cons _ u0 _ ur ra rw' =>
    obtain rfl : u0 = Value.ref a := ra
    have hlen : ur.length ≤ sizeLine := by
      rw [← Paired.length rw', sizeLine_eq]
      omega
    exact rinit_ok T I1 ea hlen fun s' J => ⟨.non, H1, J, rfl, q⟩
theorem ps_rset (T : RefT X.K X.mg C) (ho : PE X o to) (he : PE X e te) (hs : swapsWith e (some (.Attribute o "number" p')) pos.line X.env = pure false := by rfl) : PS X (.Assign [.Attribute o "number" p'] e pos) (tRset C to te) := by
  refine ⟨fun pins s σ H D I h => ?_⟩
  refine plainObj_wpAny_Assign_Attribute (thn (he.run pins s σ H _ I h) fun v s1 ⟨y, H1, I1, r1, q1⟩ => thn (ho.run pins s1 σ H1 _ I1 q1) fun u s2 ⟨x, H2, I2, r2, a, ex, ea, q⟩ => ?_) hs
  subst ex
  obtain rfl : u = Value.ref a := r2
  exact rset_new T I2 ea r1 fun dx s' n ne J => ⟨σ, _, J, q dx n ne⟩
end
/-- what its __init__ does -/
def sp_Refused_init (C : Addr) : Sp := fun vs H Q _ => ∃ (a : Addr) (n : V), vs = [.ref a, n] ∧ H a = some (exo a C none) ∧ ∀ dx, H dx = none → dx ≠ a → Q .non (upd (upd H dx (exd dx [(("number" : Str), n)])) a (exo a C (some dx)))
section
variable {P : Program} {w : World} {K : PySem.W.Frag} {mg : Str → Option Value} {base : Heap} {C : Addr}
theorem sc_ri : FnScope ["self", "number"] ["self", "number"] (defScope s_Refused_init) := ⟨rfl, rfl, rfl, by decide +kernel, rfl, by decide +kernel, by decide +kernel⟩
theorem ok_Refused_init (T : RefT K mg C) {f : Addr} {fd : FuncData} (Fn : Fun K "__init__" "Refused.__init__" s_Refused_init f fd) : FnOk P w K mg base CX0 1 f fd ["self", "number"] (sp_Refused_init C) := by
  refine Fn.ok sc_ri (fun vs H Q E h => ?_) fun cdv B0 outer s H vs Q E hr h => ?_
  · obtain ⟨a, n, rfl, _⟩ := h
    rfl
  · obtain ⟨a, n, rfl, ha, k⟩ := h
    refine ⟨_, pss_cons (ps_expr (pe_rinit T (pa_cons (pv 0) (pa_cons pe_str pa_nil)))) (pss_one (ps_rset T (pv 0) (pv 1))), ?_⟩
    refine ⟨_, rfl, a, _, rfl, (by show 1 ≤ 1000; decide), ha, ?_⟩
    exact ⟨_, rfl, _, rfl, a, rfl, ha, k⟩
end
/-- Refused(e) -/
def tMkR (C : Addr) (ta : TA) : L2.St → Hp → XK → Prop := fun σ H Q => ta σ H fun vs H1 => ∃ v, vs = [v] ∧ ∀ d, H1 d = none → Q (.ref C) (some d) (upd H1 d (.xd [(("number" : Str), v)]))
section
variable {X : Cx} {C : Addr} {e : Expr} {ta : TA} {p pos pos2 : Pos} {k : Nat}
theorem pmk_ref (T : RefT X.K X.mg C) (hr : Room 3 X.A) (ha : PA X [e] ta) (hg : Gl X "Refused" := by rfl)
    (he : starEach (e :: []) X.env = (false, eval e X.env) :: starEach [] X.env := by rfl) (hpl : (backTo pos (starEach [] X.env)).any (·.1) = false := by rfl) :
    PMk X (.Call (.Name "Refused" p) [e] [] pos) (tMkR C ta) := by
  intro pins s σ H Q I h
  obtain ⟨nm, q, N, bs, sn, sub, ab, col, dd, k0, k1, k2, k3, k5, hC⟩ := T.cls
  obtain ⟨fI, fd, Fn, hb, iC, tI⟩ := T.fn
  have F1 : FnOk X.prog X.w X.K X.mg X.base CX0 1 fI fd ["self", "number"] (sp_Refused_init C) := ok_Refused_init T Fn
  refine wpAny_Call_Name_kw (ld_glob I hg T.gC ?_)
  refine PySem.W.callWith_K (h₀ := X.base) I.ok.mod.kin T.kC (thn (ha.run pos pins s σ H _ I h) fun us s1 ⟨vs, H1, I1, r1, v, ev, q1⟩ => ⟨I1.kIn, ?_⟩) he hpl
  subst ev
  show wpAny _ _ (call (.ref C) us) _ _ _
  obtain ⟨hp, g, dr, tk, os⟩ := s1
  have hsz : hp.objs.size ≤ hp.objs.size + 1 := Nat.le_succ _
  have hn : H1 (hp.objs.size + 1) = none := I1.hok.fresh hsz
  have kk : ∀ b o, hp.get? b = some o → ((hp.push (PySem.W.kdv_tup us)).push (PySem.HandSPX.excO C hp.objs.size)).get? b = some o := fun b o e => Heap.get?_push_of_some _ (Heap.get?_push_of_some _ e)
  have hget : ((hp.push (PySem.W.kdv_tup us)).push (PySem.HandSPX.excO C hp.objs.size)).get? (hp.objs.size + 1) = some (PySem.HandSPX.excO C hp.objs.size) := by heap_get
  have I2 : Inv X pins σ (upd H1 (hp.objs.size + 1) (exo (hp.objs.size + 1) C none)) ⟨(hp.push (PySem.W.kdv_tup us)).push (PySem.HandSPX.excO C hp.objs.size), g, dr, tk, os⟩ :=
    I1.laid (t' := tk) (a := hp.objs.size + 1) (o := exo (hp.objs.size + 1) C none) (h' := (hp.push (PySem.W.kdv_tup us)).push (PySem.HandSPX.excO C hp.objs.size)) kk hsz (exo_ok hget)
  have r2 : Vals [V.ref (hp.objs.size + 1), v] (Value.ref (hp.objs.size + 1) :: us) := .cons rfl r1
  have hus : us.length ≤ sizeLine := by
    rw [← Paired.length r1, sizeLine_eq]
    show 1 ≤ _
    decide
  have hl : (Value.ref (hp.objs.size + 1) :: us).length = (["self", "number"] : List Str).length := by
    have e := r2.length
    exact e.symm
  have hb' := hb _ (Value.ref (hp.objs.size + 1) :: us) I2.kIn (by rw [List.append_nil]; exact hl)
  rw [List.append_nil] at hb'
  have hq : sp_Refused_init C [V.ref (hp.objs.size + 1), v] (upd H1 (hp.objs.size + 1) (exo (hp.objs.size + 1) C none)) (fun v' H2 => v' = .non ∧ ∃ (d : Addr), H2 (hp.objs.size + 1) = some (exo (hp.objs.size + 1) C (some d)) ∧ H2 d = some (exd d [(("number" : Str), v)]) ∧ H1 d = none ∧ Q (.ref C) (some d) (upd (del H2 (hp.objs.size + 1)) d (.xd [(("number" : Str), v)]))) (fun _ _ _ => False) := by
    refine ⟨_, v, rfl, upd_same, fun dx nd ne => ⟨rfl, dx, upd_same, by rw [upd_ne ne, upd_same], by rw [upd_ne ne] at nd; exact nd, ?_⟩⟩
    rw [upd_ne ne] at nd
    have ee : upd (del (upd (upd (upd H1 (hp.objs.size + 1) (exo (hp.objs.size + 1) C none)) dx (exd dx [(("number" : Str), v)])) (hp.objs.size + 1) (exo (hp.objs.size + 1) C (some dx))) (hp.objs.size + 1)) dx (.xd [(("number" : Str), v)]) = upd H1 dx (.xd [(("number" : Str), v)]) := by
      funext b
      by_cases h1 : b = dx
      · rw [h1, upd_same, upd_same]
      · rw [upd_ne h1, upd_ne h1]
        by_cases h2 : b = hp.objs.size + 1
        · rw [h2, del_same, hn]
        · rw [del_ne h2, upd_ne h2, upd_ne h1, upd_ne h2]
    rw [ee]
    exact q1 dx nd
  refine wpAny_call (PySem.HandSPX.call_own F.excBase_Exception ex_has (I1.kIn _ _ hC) (PySem.W.looks_findIn I1.kIn iC) (fun self => PySem.W.bind_fn I1.kIn self tI) hus
    (codeAny_mono (F1.run _ X.stack _ _ ⟨Value.ref (hp.objs.size + 1) :: us, []⟩ (Value.ref (hp.objs.size + 1) :: us) _ _ (fun _ _ _ => False) ((hr.mono (by decide : 2 ≤ 3)).make C us []) (I2.env0.make C us []) hb' r2 hq) fun r s' hq' => ?_))
  cases r with
  | error er => exact pass0 pins σ _ _ er s' I2 hq'
  | ok fl =>
    cases fl with
    | ret u =>
      obtain ⟨v', H2, os2, bare2, un2, hok2, rv, ev, d, ea, ed, hd1, q2⟩ := hq'
      subst ev
      obtain ⟨h2, g2, d2, t2, os'⟩ := s'
      exact ⟨rv, mk_end (raises_own T.xf.exC T.tyC) I1 hsz kk un2 hok2 os2 bare2 ea ed hd1 q2⟩
    | next => exact False.elim hq'
    | brk => exact False.elim hq'
    | cont => exact False.elim hq'
theorem ps_raiseR {W : WX} (hc : X.calm = true) (T : RefT X.K X.mg C) (hr : Room 3 X.A) (tk : Takes X W) (ha : PA X [e] ta) (hg : Gl X "Refused" := by rfl)
    (he : starEach (e :: []) X.env = (false, eval e X.env) :: starEach [] X.env := by rfl) (hpl : (backTo pos (starEach [] X.env)).any (·.1) = false := by rfl) :
    PS X (.Raise (some (.Call (.Name "Refused" p) [e] [] pos)) none pos2) (fun _ σ H => tMkR C ta σ H fun cls d H' => W cls d σ H') := ps_raise hc tk (pmk_ref T hr ha hg he hpl)
end
end G
end

section
set_option Elab.async false
set_option linter.all false
set_option maxRecDepth 100000
set_option maxHeartbeats 4000000
namespace G
open PySem PySem.Spec PyProof.Rows L2
/-- what the top has left, the desk's part too -/
structure TxD (K : PySem.W.Frag) (mg : Str → Option Value) (A : Adr) : Prop extends Txt K mg A where
  ref : RefT K mg A.X
  c_WITH_ID : mg "WITH_ID" = some (.ref A.W)
  t_WITH_ID : ∀ H, SqT K H A.W (([1, 2, 3, 4, 5, 6, 11, 12] : List Int).map V.int)
  c_OF_BATCH : mg "OF_BATCH" = some (.ref A.V)
  t_OF_BATCH : ∀ H, SqT K H A.V (([2, 3, 4, 5, 6, 11, 12] : List Int).map V.int)
/-- refused with n: all as it was, but for what's new -/
def Rf (A : Adr) (E : XK) (F H : Hp) (n : Int) : Prop := ∀ F' H2 dd, Fut F F' H H2 → H2 dd = some (.xd [(("number" : Str), .int n)]) → E (.ref A.X) (some dd) H2
theorem Rf.later {A : Adr} {E : XK} {F F1 H H1 : Hp} {n : Int} (r : Rf A E F H n) (u : Fut F F1 H H1) : Rf A E F1 H1 n := fun F' H2 dd v h => r F' H2 dd (u.trans v) h
/-- a def that may refuse, and changes nothing -/
def wSp (A : Adr) {α : Type} (args : α → List Rp) (pre : α → Hp → Hp → Prop) (ref : α → Option Int) (res : α → Rp) : Sp := fun vs H Q E => ∃ (x : α) (F : Hp), Same F H ∧ AllR (args x) vs F ∧ pre x F H ∧ (∀ n, ref x = some n → Rf A E F H n) ∧ (ref x = none → ∀ v H2 F', Fut F F' H H2 → res x v F' → Q v H2)
/-! ### the desk -/
/-- the desk at d, its house at a in the state s -/
def DeskH (A : Adr) (d a : Addr) (s : S) (F R : Hp) : Prop := F d = none ∧ (∃ dx, R d = some (.ins A.D dx [(("house" : Str), .ref a)])) ∧ HouseAt A a s F R
def DeskAt (A : Adr) (d : Addr) (s : S) (F R : Hp) : Prop := ∃ a, DeskH A d a s F R
theorem DeskH.ne {A : Adr} {d a : Addr} {s : S} {F R : Hp} (h : DeskH A d a s F R) : d ≠ a := fun z => by
  obtain ⟨_, ⟨dx, q⟩, _, dx2, u1, u2, q2, _⟩ := h
  rw [z, q2] at q
  have := HO.ins.inj (Option.some.inj q)
  exact absurd (congrArg List.length this.2.2) (by simp [hF])
theorem DeskH.up {A : Adr} {d a : Addr} {s : S} {F F' R R' : Hp} (h : DeskH A d a s F R) (s1 : Same F F') (s2 : Same R R') (n : New F F' R) : DeskH A d a s F' R' := by
  obtain ⟨f, ⟨dx, q⟩, hA⟩ := h
  exact ⟨n d (by rw [q]; exact fun z => by cases z) f, ⟨dx, s2 _ _ q⟩, hA.up s1 s2 n⟩
theorem DeskH.fut {A : Adr} {d a : Addr} {s : S} {F F' R R' : Hp} (h : DeskH A d a s F R) (u : Fut F F' R R') : DeskH A d a s F' R' := h.up u.ff u.hh u.nw
theorem DeskH.futB {A : Adr} {d a : Addr} {s s' : S} {F F' R R' : Hp} (h : DeskH A d a s F R) (u : FutB a F F' R R') (hA : HouseAt A a s' F' R') : DeskH A d a s' F' R' := by
  have ne := h.ne
  obtain ⟨f, ⟨dx, q⟩, _⟩ := h
  exact ⟨u.nw d (by rw [q]; exact fun z => by cases z) f, ⟨dx, u.hh _ _ ne q⟩, hA⟩
theorem DeskAt.up {A : Adr} {d : Addr} {s : S} {F F' R R' : Hp} (h : DeskAt A d s F R) (s1 : Same F F') (s2 : Same R R') (n : New F F' R) : DeskAt A d s F' R' := by
  obtain ⟨a, h⟩ := h
  exact ⟨a, h.up s1 s2 n⟩
theorem DeskAt.fut {A : Adr} {d : Addr} {s : S} {F F' R R' : Hp} (h : DeskAt A d s F R) (u : Fut F F' R R') : DeskAt A d s F' R' := h.up u.ff u.hh u.nw
theorem ins_desk {A : Adr} {d : Addr} {s : S} {F R : Hp} {m : Str} (h : DeskAt A d s F R) (hm : notIn m ["house"] = true) : InsIn (zAt d) A.D m F R := fun v F' H' _ s2 _ p => by
  obtain ⟨a, f, ⟨dx, q⟩, _⟩ := h
  exact ⟨d, dx, _, p, s2 _ _ q, lk_none hm⟩
/-- what a call of the desk leaves of the rest: all that stands still, all lists -/
structure FutD (F F' H H2 : Hp) : Prop where
  ff : Same F F'
  fh : Same F' H2
  hh : ∀ b us, H b = some (.lst us) → H2 b = some (.lst us)
  nw : New F F' H
  al : ∀ b, H b ≠ none → H2 b ≠ none
theorem FutD.of {F F' H H2 : Hp} (u : Fut F F' H H2) : FutD F F' H H2 := ⟨u.ff, u.fh, fun b us h => u.hh b _ h, u.nw, fun b h => same_ne u.hh h⟩
theorem FutD.ofB {A : Adr} {a : Addr} {s : S} {F F' H H2 : Hp} (hA : HouseAt A a s F H) (u : FutB a F F' H H2) : FutD F F' H H2 := ⟨u.ff, u.fh, fun b us h => u.hh b _ (hA.neL h) h, u.nw, fun b h => u.ne h⟩
theorem FutD.trans {F F1 F2 H H1 H2 : Hp} (u : FutD F F1 H H1) (v : FutD F1 F2 H1 H2) : FutD F F2 H H2 :=
  ⟨u.ff.trans v.ff, v.fh, fun b us h => v.hh b us (u.hh b us h), fun b hb n => v.nw b (u.al b hb) (u.nw b hb n), fun b h => v.al b (u.al b h)⟩
abbrev Ans := Except Int (S × List Int)
/-- a def of the desk that answers: refused with a number, or the state behind it and the answer -/
def dSp (A : Adr) {α : Type} (args : Addr × S × α → List Rp) (pre : Addr × S × α → Prop) (out : Addr × S × α → Ans) : Sp := fun vs H Q E => ∃ (x : Addr × S × α) (F : Hp), Same F H ∧ AllR (zAt x.1 :: args x) vs F ∧ DeskAt A x.1 x.2.1 F H ∧ WF x.2.1 ∧ pre x ∧
  (∀ n, out x = .error n → Rf A E F H n) ∧ (∀ s' l, out x = .ok (s', l) → ∀ v H2 F', FutD F F' H H2 → DeskAt A x.1 s' F' H2 → zL zI l v F' → Q v H2)
section
variable {P : Program} {w : World} {K : PySem.W.Frag} {mg : Str → Option Value} {base : Heap} {A : Adr}
theorem body_okW {α : Type} {args : α → List Rp} {pre : α → Hp → Hp → Prop} {ref : α → Option Int} {res : α → Rp} {name qual : Str} {st : Stmt} {ps N : List Str} {k : Nat} {f : Addr} {fd : FuncData} (Fn : Fun K name qual st f fd) (S : FnScope N ps (defScope st)) (hl : ∀ x, (args x).length = ps.length)
    (hb : ∀ (cdv : Value) (A0 : Around) (outer : List Env) (s : Shared) (H : Hp) (E : XK), Room k (A0.deeper (envOfC qual (defScope st) s.heap.objs.size f cdv)) →
      ∃ t, PSs (cxOf (L2.CX P w) P w K mg base N qual (defScope st) f cdv A0 outer s H E) (defBody st) t ∧
        ∀ (x : α) (F : Hp) (vs : List V) (Q : VK), Same F H → AllR (args x) vs F → pre x F H → (∀ n, ref x = some n → Rf A E F H n) → (ref x = none → ∀ v H2 F', Fut F F' H H2 → res x v F' → Q v H2) → t { nx := fun _ H' => Q .non H', rt := Q } (start N vs) H) :
    FnOk P w K mg base (L2.CX P w) (k + 1) f fd ps (wSp A args pre ref res) := by
  refine Fn.okX S (fun vs H Q E h => ?_) (fun cdv A0 outer s H vs Q E hr h => ?_)
  · obtain ⟨x, F, _, a, _⟩ := h
    rw [a.len, hl]
  · obtain ⟨x, F, s1, a, p, q1, q2⟩ := h
    obtain ⟨t, h1, h2⟩ := hb cdv A0 outer s H E hr
    exact ⟨t, h1, h2 x F vs Q s1 a p q1 q2⟩
theorem body_okD {α : Type} {args : Addr × S × α → List Rp} {pre : Addr × S × α → Prop} {out : Addr × S × α → Ans} {name qual : Str} {st : Stmt} {ps N : List Str} {k : Nat} {f : Addr} {fd : FuncData} (Fn : Fun K name qual st f fd) (Sc : FnScope N ps (defScope st)) (hl : ∀ x, (args x).length + 1 = ps.length)
    (hb : ∀ (cdv : Value) (A0 : Around) (outer : List Env) (s : Shared) (H : Hp) (E : XK), Room k (A0.deeper (envOfC qual (defScope st) s.heap.objs.size f cdv)) →
      ∃ t, PSs (cxOf (L2.CX P w) P w K mg base N qual (defScope st) f cdv A0 outer s H E) (defBody st) t ∧
        ∀ (d : Addr) (s : G.S) (x : α) (F : Hp) (vs : List V) (Q : VK), Same F H → AllR (zAt d :: args (d, s, x)) vs F → DeskAt A d s F H → WF s → pre (d, s, x) → (∀ n, out (d, s, x) = .error n → Rf A E F H n) → (∀ s' l, out (d, s, x) = .ok (s', l) → ∀ v H2 F', FutD F F' H H2 → DeskAt A d s' F' H2 → zL zI l v F' → Q v H2) → t { nx := fun _ H' => Q .non H', rt := Q } (start N vs) H) :
    FnOk P w K mg base (L2.CX P w) (k + 1) f fd ps (dSp A args pre out) := by
  refine Fn.okX Sc (fun vs H Q E h => ?_) (fun cdv A0 outer s H vs Q E hr h => ?_)
  · obtain ⟨x, F, _, a, _⟩ := h
    rw [a.len, ← hl x]
    rfl
  · obtain ⟨⟨d, st, x⟩, F, s1, a, hD, wf, p, q1, q2⟩ := h
    obtain ⟨t, h1, h2⟩ := hb cdv A0 outer s H E hr
    exact ⟨t, h1, h2 d st x F vs Q s1 a hD wf p q1 q2⟩
section
variable {σ : L2.St} {F H R : Hp} {ta tb tc tn te : TE} {tr : TA} {E : XK} {Q : VK} {d a : Addr} {s : S} {D : Ends} {tz tu : TS}
theorem ev_house (T : TxD K mg A) (h : DeskH A d a s F R) (ha : Ev ta σ F R (zAt d)) : Ev (tFld K ta "house") σ F R (zAt a) := by
  obtain ⟨f, ⟨dx, q⟩, _⟩ := h
  exact ev_fldA (P1 := zAt a) q lk_here rfl T.c_D T.n_D_house ha
theorem r_w {α : Type} {args : α → List Rp} {pre : α → Hp → Hp → Prop} {ref : α → Option Int} {res : α → Rp} (x : α) (sF : Same F H) (hp : ∀ F' H', Same F F' → Same H H' → Same F' H' → New F F' H → pre x F' H') (ha : EvA tr σ F H (args x)) (hr : ∀ n, ref x = some n → Rf A E F H n) (hq : ref x = none → ∀ v H2 F', Fut F F' H H2 → res x v F' → Q v H2) :
    tCall (wSp A args pre ref res) [] E tr σ H Q := ha sF H (Same.refl _) _ fun vs H1 F1 u1 av =>
  ⟨x, F1, u1.fh, by rw [List.append_nil]; exact av, hp F1 H1 u1.ff u1.hh u1.fh u1.nw, fun n h => (hr n h).later u1, fun h v H2 F' u q => hq h v H2 F' (u1.trans u) q⟩
theorem r_wm {α : Type} {args : Addr × S × α → List Rp} {pre : Addr × S × α → Prop} {ref : Addr × S × α → Option Int} {res : Addr × S × α → Rp} {m : Str} (x : α) (sF : Same F H) (hD : DeskAt A d s F H) (wf : WF s) (hp : pre (d, s, x)) (hm : notIn m ["house"] = true) (ha : Ev ta σ F H (zAt d)) [MSs (args (d, s, x))] (ht : EvA tr σ F H (args (d, s, x)))
    (hr : ∀ n, ref (d, s, x) = some n → Rf A E F H n) (hq : ref (d, s, x) = none → ∀ v H2 F', Fut F F' H H2 → res (d, s, x) v F' → Q v H2) :
    tMeth A.D m (wSp A (fun x : Addr × S × α => zAt x.1 :: args x) (fun x F H => DeskAt A x.1 x.2.1 F H ∧ WF x.2.1 ∧ pre x) ref res) [] E ta tr σ H Q := by
  refine ha sF H (Same.refl _) _ fun v H2 F1 u1 p1 => ?_
  have p1 : v = .ref d := p1
  subst p1
  obtain ⟨a, dx, fs, e, hh, l⟩ := ins_desk hD hm (.ref d) F1 H2 u1.ff u1.hh u1.fh rfl
  refine ⟨a, dx, fs, e, hh, l, ht sF H2 u1.hh _ fun vs H3 F2 u2 av => ?_⟩
  obtain ⟨u, e1, e2⟩ := u1.join u2
  refine ⟨(d, s, x), _, u.fh, ?_, ⟨hD.fut u, wf, hp⟩, fun n h => (hr n h).later u, fun h v H4 F3 u3 r => hq h v H4 F3 (u.trans u3) r⟩
  rw [List.append_nil]
  exact .cons rfl (MSs.mono e2 av)
theorem r_dm {α : Type} {args : Addr × S × α → List Rp} {pre : Addr × S × α → Prop} {out : Addr × S × α → Ans} {m : Str} (x : α) (sF : Same F H) (hD : DeskAt A d s F H) (wf : WF s) (hp : pre (d, s, x)) (hm : notIn m ["house"] = true) (ha : Ev ta σ F H (zAt d)) [MSs (args (d, s, x))] (ht : EvA tr σ F H (args (d, s, x)))
    (hr : ∀ n, out (d, s, x) = .error n → Rf A E F H n) (hq : ∀ s' l, out (d, s, x) = .ok (s', l) → ∀ v H2 F', FutD F F' H H2 → DeskAt A d s' F' H2 → zL zI l v F' → Q v H2) :
    tMeth A.D m (dSp A args pre out) [] E ta tr σ H Q := by
  refine ha sF H (Same.refl _) _ fun v H2 F1 u1 p1 => ?_
  have p1 : v = .ref d := p1
  subst p1
  obtain ⟨a, dx, fs, e, hh, l⟩ := ins_desk hD hm (.ref d) F1 H2 u1.ff u1.hh u1.fh rfl
  refine ⟨a, dx, fs, e, hh, l, ht sF H2 u1.hh _ fun vs H3 F2 u2 av => ?_⟩
  obtain ⟨u, e1, e2⟩ := u1.join u2
  refine ⟨(d, s, x), _, u.fh, ?_, hD.fut u, wf, hp, fun n h => (hr n h).later u, fun s' l h v H4 F3 u3 d3 r => hq s' l h v H4 F3 ((FutD.of u).trans u3) d3 r⟩
  rw [List.append_nil]
  exact .cons rfl (MSs.mono e2 av)
end
/-! ### want -/
def sp_want (K : PySem.W.Frag) (A : Adr) : Sp := wSp A (fun x : Bool × Int => [zB x.1, zI x.2]) noPre (fun x => if x.1 = true then none else some x.2) (fun _ => zNo)
theorem ok_want (T : TxD K mg A) : CF P w K mg base (L2.CX P w) 4 "want" ["truth", "number"] (sp_want K A) :=
  T.f_want.cf fun f fd Fn => body_okW Fn sc_want (fun _ => rfl) fun cdv B0 outer s H E hr => by
    refine ⟨_, (pss_one (ps_if (pt_not (pt_val (pv 0)))
      (pss_one (ps_raiseR rfl T.ref (hr.mono (by decide)) (takes_of rfl rfl rfl rfl) (pa_cons (pv 1) pa_nil)))
      pss_nil)), fun x F vs Q sF av _ k1 k2 => ?_⟩
    obtain ⟨b, n⟩ := x
    obtain ⟨u1, u2, rfl, p1, p2⟩ := av.two
    have p2 : u2 = .int n := p2
    subst p2
    refine s_if sF (et_not (et_B (ev_var rfl p1))) (fun hc H1 f1 => ?_) fun hc H1 f1 => ?_
    · have hb : b = false := by simpa using hc
      subst hb
      refine ⟨_, rfl, _, rfl, fun dd hd => ?_⟩
      exact k1 n rfl F _ dd (f1.trans (Fut.grow f1.fh (same_upd (Same.refl _) hd))) upd_same
    · have hb : b = true := by simpa using hc
      subst hb
      exact k2 rfl _ _ _ f1 rfl
section
variable {σ : L2.St} {F H R : Hp} {ta tb tc tn te : TE} {tr : TA} {E : XK} {Q : VK} {D : Ends} {tz tu : TS}
theorem st_want {b : Bool} {n : Int} (sF : Same F H) (hc : Ev tc σ F H (zB b)) (hn : Ev tn σ F H (zI n)) (hr : b = false → Rf A E F H n) (hk : b = true → ∀ H1, Fut F F H H1 → D.nx σ H1) : tDrop (tCall (sp_want K A) [] E (tCons tc (tCons tn tNil))) D σ H := by
  refine r_w (b, n) sF pr0 (ea_cons hc (ea_cons hn ea_nil)) (fun m h => ?_) fun h v H2 F' u _ => ?_
  · cases b with
    | true => cases h
    | false =>
      cases h
      exact hr rfl
  · cases b with
    | false => cases h
    | true => exact hk rfl H2 (Fut.grow sF u.hh)
theorem q_want {b : Bool} {n : Int} (sF : Same F H) (hc : Ev tc σ F H (zB b)) (hn : Ev tn σ F H (zI n)) (hr : b = false → Rf A E F H n) (hk : b = true → ∀ H1, Fut F F H H1 → tz D σ H1) : tSeq (tDrop (tCall (sp_want K A) [] E (tCons tc (tCons tn tNil)))) tz D σ H := st_want (D := { D with nx := tz D }) sF hc hn hr hk
end
def sp_listed (K : PySem.W.Frag) (A : Adr) : Sp := FSp (fun x : List Int => [zL zI x]) (fun x _ _ => x.length < LB) (fun x => zL zI ((x.length : Int) :: x))
theorem ok_listed (T : TxD K mg A) : CF P w K mg base CX0 1 "listed" ["numbers"] (sp_listed K A) :=
  T.f_listed.cf fun f fd Fn => body_ok Fn sc_listed (fun _ => rfl) fun cdv B0 outer s H E hr => by
    refine ⟨_, (pss_one (ps_ret (pe_op op_cat (pe_lst (pa_cons (pe_callB call_len_seq rfl T.b_len (by decide +kernel) (pa_cons (pv 0) pa_nil)) pa_nil)) (pe_callTy call_list_of rfl T.b_list (by decide +kernel) (pa_cons (pv 0) pa_nil))))), fun x F vs Q sF av pr k => ?_⟩
    obtain ⟨u, rfl, p⟩ := av.one
    refine s_retk sF k ?_
    have pr : x.length < LB := pr
    exact ev_cat (l := [(x.length : Int)]) (m := x) (by show 1 + x.length ≤ LB; omega) (ev_lst1 (f := zI) (ev_len (ea_cons (ev_var rfl p) ea_nil))) (ev_list (ea_cons (ev_var rfl p) ea_nil))
def numB (l : List Int) : Bool := l.all fun x => Vbwbad.inR x 0 1000000000
def sp_are_numbers (K : PySem.W.Frag) (A : Adr) : Sp := FSp (fun x : List Int => [zL zI x]) noPre (fun x => zB (numB x))
theorem ok_are_numbers (T : TxD K mg A) : CF P w K mg base CX0 1 "are_numbers" ["row"] (sp_are_numbers K A) :=
  T.f_are_numbers.cf fun f fd Fn => body_ok Fn sc_are_numbers (fun _ => rfl) fun cdv B0 outer s H E hr => by
    refine ⟨_, (pss_one (ps_ret (pe_callB (cr_all rfl) rfl T.b_all (by decide +kernel) (pa_cons (pe_lc (own := [("number", 1)]) (g := (gName 1)) (tt := tYes) (te := (tChain (rI0 fun i j => .bl (decide (i ≤ j))) (rI0 fun i j => .bl (decide (i ≤ j))) (tC (.int 0)) (tVar 1) (tC (.int 1000000000)))) rfl sc_are_numbers.nd (pi_list (pv 0)) (blkOk_by (N := ["row", "number"]) (sc := defScope s_are_numbers) (own := [("number", 1)]) (by decide +kernel)) (fun _ _ _ _ _ => (pg_name (i := 1) sc_are_numbers.nd rfl (Or.inl rfl))) (fun _ _ _ _ _ => pts_nil) (fun _ _ _ _ _ => (pe_chain op_le op_le pe_int (pv 1) (pe_glob (v := .int (1000000000)) rfl T.c_MOST_NUMBER ⟨_, rfl⟩)))) pa_nil)))), fun x F vs Q sF av _ k => ?_⟩
    obtain ⟨u, rfl, p⟩ := av.one
    refine s_retk sF k ?_
    show Ev _ _ F H (zB (numB x))
    unfold numB
    rw [← all_id]
    exact ev_all (ea_cons (ev_lcA (r := zB) (fun n : Int => Vbwbad.inR n 0 1000000000) (zL_le p) (ei_list (ev_var rfl p)) fun n hn y F3 R3 s1 s2 s3 g => ⟨_, b_name, rfl, ev_chain (g := fun i j => decide (i ≤ j)) (g' := fun i j => decide (i ≤ j)) ev_int (ev_var rfl g) (ev_c rfl)⟩) ea_nil)
theorem numB_nn {l : List Int} (h : numB l = true) : ∀ x ∈ l, 0 ≤ x ∧ x ≤ 1000000000 := fun x hx => by
  have := List.all_eq_true.mp h x hx
  simpa [Vbwbad.inR] using this
theorem zN_of {l : List Int} {v : V} {F : Hp} (h : ∀ x ∈ l, 0 ≤ x) (p : zL zI l v F) : zL zN (l.map Int.toNat) v F := by
  refine zI_nat ?_
  rw [int_nat_list h]
  exact p
/-- methods of the desk that may refuse, and change nothing -/
abbrev dwSp (A : Adr) {α : Type} (args : Addr × S × α → List Rp) (pre : Addr × S × α → Prop) (ref : Addr × S × α → Option Int) (res : Addr × S × α → Rp) : Sp := wSp A (fun x : Addr × S × α => zAt x.1 :: args x) (fun x F H => DeskAt A x.1 x.2.1 F H ∧ WF x.2.1 ∧ pre x) ref res
def sp_Desk_want_list (K : PySem.W.Frag) (A : Adr) : Sp := dwSp A (α := List Int) (fun x => [zL zI x.2.2]) (fun _ => True) (fun x => if (Vbwbad.vecIn x.2.1 x.2.2).isSome = true then none else some (-2)) (fun _ => zNo)
theorem vecIn_b (s : S) (l : List Int) : (Vbwbad.vecIn s l).isSome = (decide ((l.length : Int) = (s.totals.length : Int)) && numB l) := by
  unfold Vbwbad.vecIn
  by_cases h : l.length = s.totals.length
  · by_cases h2 : numB l = true
    · rw [if_pos ⟨h, h2⟩, h2, h]
      simp
    · rw [if_neg fun z => h2 z.2]
      simp [h2]
  · rw [if_neg fun z => h z.1]
    have : ¬ (l.length : Int) = (s.totals.length : Int) := fun z => h (Int.ofNat_inj.mp z)
    simp [this]
theorem vecIn_some {s : S} {l : List Int} {v : Vec} (h : Vbwbad.vecIn s l = some v) : v = l.map Int.toNat ∧ l.length = s.totals.length ∧ (∀ x ∈ l, 0 ≤ x) ∧ v.length = s.totals.length := by
  unfold Vbwbad.vecIn at h
  by_cases c : l.length = s.totals.length ∧ (l.all fun x => Vbwbad.inR x 0 1000000000) = true
  · rw [if_pos c] at h
    cases h
    exact ⟨rfl, c.1, fun x hx => (numB_nn c.2 x hx).1, by rw [List.length_map]; exact c.1⟩
  · rw [if_neg c] at h
    cases h
theorem ok_Desk_want_list (T : TxD K mg A) : MF P w K mg base (L2.CX P w) 5 A.D "want_list" ["self", "row"] (sp_Desk_want_list K A) :=
  T.f_Desk_want_list.mf fun f fd Fn => body_okW Fn sc_Desk_want_list (fun _ => rfl) fun cdv B0 outer s H E hr => by
    refine ⟨_, (pss_one (ps_expr (pe_callF (ok_want T) (hr.mono (by decide)) (passes_call (takes_of rfl rfl rfl rfl) (fun _ _ _ _ h => h)) (pa_cons (pe_and (pe_cmpR op_eq (pe_callB call_len_seq rfl T.b_len (by decide +kernel) (pa_cons (pv 1) pa_nil)) (pe_callB call_len_seq rfl T.b_len (by decide +kernel) (pa_cons (pe_fld (pe_fld (pv 0) rfl) rfl) pa_nil)) (nomark _)) (pe_one (pe_callF (ok_are_numbers T) (hr.mono (by decide)) pass0 (pa_cons (pv 1) pa_nil)))) (pa_cons (pe_glob (v := .int (-2)) rfl T.c_BAD_ROW ⟨_, rfl⟩) pa_nil))))), fun x F vs Q sF av pr k1 k2 => ?_⟩
    obtain ⟨d, st, l⟩ := x
    obtain ⟨u, ul, rfl, p0, p1⟩ := av.two
    obtain rfl : u = .ref d := p0
    obtain ⟨⟨a, hD⟩, wf, _⟩ := pr
    have hD : DeskH A d a st F H := hD
    have hA := hD.2.2
    refine st_want sF (b := (Vbwbad.vecIn st l).isSome) (n := -2) ?_ (ev_c rfl) (fun h => k1 _ ?_) fun h H1 f1 => k2 ?_ _ _ _ f1 rfl
    · rw [vecIn_b]
      exact ev_andV (ev_eqI (ev_len (ea_cons (ev_var rfl p1) ea_nil)) (ev_len (ea_cons (ev_tot T.toTxt hA (ev_house T hD (ev_var rfl zAt_rfl))) ea_nil))) fun _ => ev_call l pr0 (ea_cons (ev_var rfl p1) ea_nil)
    · show (if (Vbwbad.vecIn st l).isSome = true then none else some (-2)) = _
      rw [h]
      rfl
    · show (if (Vbwbad.vecIn st l).isSome = true then none else some (-2)) = _
      rw [h]
      rfl
def sp_Desk_batch_of (K : PySem.W.Frag) (A : Adr) : Sp := dwSp A (α := Nat) (fun x => [zN x.2.2]) (fun _ => True) (fun x => if (Vbwbad.batchOf x.2.1 x.2.2).isSome = true then none else some (-10)) (fun x => zOB A (Vbwbad.batchOf x.2.1 x.2.2))
theorem zOB_isNo {o : Option B} {v : V} {F : Hp} (p : zOB A o v F) : decide (v = .non) = o.isNone := by
  cases o with
  | none =>
    have p : v = .non := p
    subst p
    rfl
  | some b =>
    obtain ⟨a, _, _, _, _, rfl, _⟩ := p
    rfl
theorem ok_Desk_batch_of (T : TxD K mg A) : MF P w K mg base (L2.CX P w) 5 A.D "batch_of" ["self", "number"] (sp_Desk_batch_of K A) :=
  T.f_Desk_batch_of.mf fun f fd Fn => body_okW Fn sc_Desk_batch_of (fun _ => rfl) fun cdv B0 outer s H E hr => by
    refine ⟨_, (pss_cons (ps_set (i := 2) sc_Desk_batch_of.nd rfl (Or.inl rfl) (pe_methF (ok_House_find T.toTxt) (hr.mono (by decide)) pass0 (pe_fld (pv 0) rfl) (pa_cons (pv 1) pa_nil)))
      (pss_cons (ps_expr (pe_callF (ok_want T) (hr.mono (by decide)) (passes_call (takes_of rfl rfl rfl rfl) (fun _ _ _ _ h => h)) (pa_cons (pe_cmpR op_notN (pv 2) pe_non (nomark _)) (pa_cons (pe_glob (v := .int (-10)) rfl T.c_NONE_SUCH ⟨_, rfl⟩) pa_nil))))
      (pss_one (ps_ret (pv 2))))), fun x F vs Q sF av pr k1 k2 => ?_⟩
    obtain ⟨d, st, i⟩ := x
    obtain ⟨u, ul, rfl, p0, p1⟩ := av.two
    obtain rfl : u = .ref d := p0
    obtain ⟨⟨a, hD⟩, wf, _⟩ := pr
    have hD : DeskH A d a st F H := hD
    have hA := hD.2.2
    refine q_asg sF (ev_hm (res := fun x : Addr × S × Nat => zOB A (Vbwbad.batchOf x.2.1 x.2.2)) i hA wf trivial (by decide +kernel) (ev_house T hD (ev_var rfl zAt_rfl)) (ea_cons (ev_var rfl p1) ea_nil)) fun u2 H1 F1 fu p2 => ?_
    have p2 : zOB A (Vbwbad.batchOf st i) u2 F1 := p2
    refine q_want fu.fh (b := (Vbwbad.batchOf st i).isSome) (n := -10) (Ev.bl (by cases Vbwbad.batchOf st i <;> rfl) (ev_notN (b := (Vbwbad.batchOf st i).isNone) (fun v F' p => zOB_isNo p) (ev_var rfl p2))) (ev_c rfl) (fun h => (k1 _ ?_).later fu) fun h H2 f2 => ?_
    · show (if (Vbwbad.batchOf st i).isSome = true then none else some (-10)) = _
      rw [h]
      rfl
    · refine s_ret f2.fh (ev_var rfl p2) fun v H3 F3 f3 pv => k2 ?_ v H3 F3 ((fu.trans f2).trans f3) pv
      show (if (Vbwbad.batchOf st i).isSome = true then none else some (-10)) = _
      rw [h]
      rfl
def kindB (s : S) (j : Int) : Bool := decide (0 ≤ j) && decide (j < (s.totals.length : Int))
def sp_Desk_want_kind (K : PySem.W.Frag) (A : Adr) : Sp := dwSp A (α := Int) (fun x => [zI x.2.2]) (fun _ => True) (fun x => if kindB x.2.1 x.2.2 = true then none else some (-1)) (fun _ => zNo)
theorem ok_Desk_want_kind (T : TxD K mg A) : MF P w K mg base (L2.CX P w) 5 A.D "want_kind" ["self", "j"] (sp_Desk_want_kind K A) :=
  T.f_Desk_want_kind.mf fun f fd Fn => body_okW Fn sc_Desk_want_kind (fun _ => rfl) fun cdv B0 outer s H E hr => by
    refine ⟨_, (pss_one (ps_expr (pe_callF (ok_want T) (hr.mono (by decide)) (passes_call (takes_of rfl rfl rfl rfl) (fun _ _ _ _ h => h)) (pa_cons (pe_chain op_le op_lt pe_int (pv 1) (pe_callB call_len_seq rfl T.b_len (by decide +kernel) (pa_cons (pe_fld (pe_fld (pv 0) rfl) rfl) pa_nil))) (pa_cons (pe_glob (v := .int (-1)) rfl T.c_OUT_OF_RANGE ⟨_, rfl⟩) pa_nil))))), fun x F vs Q sF av pr k1 k2 => ?_⟩
    obtain ⟨d, st, j⟩ := x
    obtain ⟨u, ul, rfl, p0, p1⟩ := av.two
    obtain rfl : u = .ref d := p0
    obtain ⟨⟨a, hD⟩, wf, _⟩ := pr
    have hD : DeskH A d a st F H := hD
    have hA := hD.2.2
    refine st_want sF (b := kindB st j) (n := -1) (ev_chain (g := fun i j => decide (i ≤ j)) (g' := fun i j => decide (i < j)) ev_int (ev_var rfl p1) (ev_len (ea_cons (ev_tot T.toTxt hA (ev_house T hD (ev_var rfl zAt_rfl))) ea_nil))) (ev_c rfl) (fun h => k1 _ ?_) fun h H1 f1 => k2 ?_ _ _ _ f1 rfl
    · show (if kindB st j = true then none else some (-1)) = _
      rw [h]
      rfl
    · show (if kindB st j = true then none else some (-1)) = _
      rw [h]
      rfl
def thereB (s : S) (l : List Int) : Bool := (l.all fun x => decide (x ∈ (Vbwbad.ids s.batches).map fun n : Nat => (n : Int))) && decide l.Nodup
def sp_Desk_want_batches (K : PySem.W.Frag) (A : Adr) : Sp := dwSp A (α := List Int) (fun x => [zL zI x.2.2]) (fun x => x.2.2.length ≤ 4000) (fun x => if thereB x.2.1 x.2.2 = true then none else some (-2)) (fun _ => zNo)
theorem ok_Desk_want_batches (T : TxD K mg A) : MF P w K mg base (L2.CX P w) 5 A.D "want_batches" ["self", "row"] (sp_Desk_want_batches K A) :=
  T.f_Desk_want_batches.mf fun f fd Fn => body_okW Fn sc_Desk_want_batches (fun _ => rfl) fun cdv B0 outer s H E hr => by
    refine ⟨_, (pss_cons (ps_set (i := 2) sc_Desk_want_batches.nd rfl (Or.inr rfl) (pe_callF (ok_numbers_of T.toTxt) (hr.mono (by decide)) pass0 (pa_cons (pe_fld (pe_fld (pv 0) rfl) rfl) pa_nil)))
      (pss_one (ps_expr (pe_callF (ok_want T) (hr.mono (by decide)) (passes_call (takes_of rfl rfl rfl rfl) (fun _ _ _ _ h => h)) (pa_cons (pe_and (pe_callB (cr_all rfl) rfl T.b_all (by decide +kernel) (pa_cons (pe_lc (own := [("number", 3)]) (g := (gName 3)) (tt := tYes) (te := (tOp (rIn K false) (tVar 3) (tVar 2))) rfl sc_Desk_want_batches.nd (pi_list (pv 1)) (blkOk_by (N := ["self", "row", "there", "number"]) (sc := defScope s_Desk_want_batches) (own := [("number", 3)]) (by decide +kernel)) (fun _ _ _ _ _ => (pg_name (i := 3) sc_Desk_want_batches.nd rfl (Or.inl rfl))) (fun _ _ _ _ _ => pts_nil) (fun _ _ _ _ _ => (pe_cmpR op_in_seq (pv 3) (pv 2) (by rfl)))) pa_nil)) (pe_one (pe_cmpR op_eq (pe_lenSetA rfl T.b_len rfl T.b_set (pv 1)) (pe_callB call_len_seq rfl T.b_len (by decide +kernel) (pa_cons (pv 1) pa_nil)) (nomark _)))) (pa_cons (pe_glob (v := .int (-2)) rfl T.c_BAD_ROW ⟨_, rfl⟩) pa_nil)))))), fun x F vs Q sF av pr k1 k2 => ?_⟩
    obtain ⟨d, st, l⟩ := x
    obtain ⟨u, ul, rfl, p0, p1⟩ := av.two
    obtain rfl : u = .ref d := p0
    obtain ⟨⟨a, hD⟩, wf, hl⟩ := pr
    have hD : DeskH A d a st F H := hD
    have hl : l.length ≤ 4000 := hl
    have p1 : zL zI l ul F := p1
    have hA := hD.2.2
    refine q_asg sF (ev_call st.batches pr0 (ea_cons (ev_bts T.toTxt hA (ev_house T hD (ev_var rfl zAt_rfl))) ea_nil)) fun u2 H1 F1 fu p2 => ?_
    have p2 : zL zI ((Vbwbad.ids st.batches).map fun n : Nat => (n : Int)) u2 F1 := zN_int p2
    refine st_want fu.fh (b := thereB st l) (n := -2) ?_ (ev_c rfl) (fun h => (k1 _ ?_).later fu) fun h H2 f2 => k2 ?_ _ _ _ (fu.trans f2) rfl
    · unfold thereB
      rw [← dd_nodup, ← all_id]
      exact ev_andV (ev_all (ea_cons (ev_lcA (r := zB) (fun n : Int => decide (n ∈ (Vbwbad.ids st.batches).map fun n : Nat => (n : Int))) (zL_le p1) (ei_list (ev_var rfl (up fu.ff p1))) fun n hn y F3 R3 s1 s2 s3 g => ⟨_, b_name, rfl, ev_in (neg := false) (ev_var rfl g) (ev_var rfl (up s1 p2))⟩) ea_nil))
        fun _ => ev_eqI (ev_lenSet hl (ev_var rfl (up fu.ff p1))) (ev_len (ea_cons (ev_var rfl (up fu.ff p1)) ea_nil))
    · show (if thereB st l = true then none else some (-2)) = _
      rw [h]
      rfl
    · show (if thereB st l = true then none else some (-2)) = _
      rw [h]
      rfl
end
end G
end

section
set_option Elab.async false
set_option linter.all false
set_option maxRecDepth 100000
set_option maxHeartbeats 4000000
namespace G
open PySem PySem.Spec PyProof.Rows L2
section
variable {P : Program} {w : World} {K : PySem.W.Frag} {mg : Str → Option Value} {base : Heap} {A : Adr}
def vq (s : S) (l : List Int) (g : Vec → Ans) : Ans := match Vbwbad.vecIn s l with
  | none => .error (-2)
  | some v => g v
theorem vq_none {s : S} {l : List Int} {g : Vec → Ans} (h : Vbwbad.vecIn s l = none) : vq s l g = .error (-2) := by
  unfold vq
  rw [h]
theorem vq_some {s : S} {l : List Int} {g : Vec → Ans} {v : Vec} (h : Vbwbad.vecIn s l = some v) : vq s l g = g v := by
  unfold vq
  rw [h]
theorem body_okD0 {α : Type} {args : Addr × S × α → List Rp} {pre : Addr × S × α → Prop} {out : Addr × S × α → Ans} {name qual : Str} {st : Stmt} {ps N : List Str} {k : Nat} {f : Addr} {fd : FuncData} (Fn : Fun K name qual st f fd) (Sc : FnScope N ps (defScope st)) (hl : ∀ x, (args x).length + 1 = ps.length)
    (hb : ∀ (cdv : Value) (A0 : Around) (outer : List Env) (s : Shared) (H : Hp) (E : XK), Room k (A0.deeper (envOfC qual (defScope st) s.heap.objs.size f cdv)) →
      ∃ t, PSs (cxOf CX0 P w K mg base N qual (defScope st) f cdv A0 outer s H E).nox (defBody st) t ∧
        ∀ (d : Addr) (s : G.S) (x : α) (F : Hp) (vs : List V) (Q : VK), Same F H → AllR (zAt d :: args (d, s, x)) vs F → DeskAt A d s F H → WF s → pre (d, s, x) → (∀ s' l, out (d, s, x) = .ok (s', l) → ∀ v H2 F', FutD F F' H H2 → DeskAt A d s' F' H2 → zL zI l v F' → Q v H2) → t { nx := fun _ H' => Q .non H', rt := Q } (start N vs) H) :
    FnOk P w K mg base CX0 (k + 1) f fd ps (dSp A args pre out) := by
  refine Fn.ok Sc (fun vs H Q E h => ?_) (fun cdv A0 outer s H vs Q E hr h => ?_)
  · obtain ⟨x, F, _, a, _⟩ := h
    rw [a.len, ← hl x]
    rfl
  · obtain ⟨⟨d, st, x⟩, F, s1, a, hD, wf, p, q1, q2⟩ := h
    obtain ⟨t, h1, h2⟩ := hb cdv A0 outer s H E hr
    exact ⟨t, h1, h2 d st x F vs Q s1 a hD wf p q2⟩
section
variable {σ : L2.St} {F H R : Hp} {ta tb tc tn te tx tl : TE} {tr : TA} {E : XK} {Q : VK} {d a : Addr} {s : S} {D : Ends} {tz tu : TS}
/-- a method that changes the house is called -/
theorem r_hM {α : Type} {args : Addr × S × α → List Rp} {pre : Addr × S × α → Prop} {next : Addr × S × α → S} {res : Addr × S × α → Rp} {m : Str} (x : α) (sF : Same F H) (h : HouseAt A a s F H) (wf : WF s) (hp : pre (a, s, x)) (hm : notIn m ["totals", "batches", "many_waited"] = true) (ha : Ev ta σ F H (zAt a)) [MSs (args (a, s, x))] (hr : EvA tr σ F H (args (a, s, x)))
    (q : ∀ v H2 F', FutB a F F' H H2 → HouseAt A a (next (a, s, x)) F' H2 → res (a, s, x) v F' → Q v H2) : tMeth A.H m (mSp A args pre next res) [] E ta tr σ H Q := by
  refine ha sF H (Same.refl _) _ fun v H2 F1 u1 p1 => ?_
  have p1 : v = .ref a := p1
  subst p1
  obtain ⟨a', dx, fs, e, hh, l⟩ := ins_house h hm (.ref a) F1 H2 u1.ff u1.hh u1.fh rfl
  refine ⟨a', dx, fs, e, hh, l, hr sF H2 u1.hh _ fun vs H3 F2 u2 av => ?_⟩
  obtain ⟨u, e1, e2⟩ := u1.join u2
  refine ⟨(a, s, x), _, u.fh, ?_, h.fut u, wf, hp, fun v H4 F3 u3 o3 r => q v H4 F3 ((FutB.of u).trans u3) o3 r⟩
  rw [List.append_nil]
  exact .cons rfl (MSs.mono e2 av)
theorem call1_of {sp : Sp} (h : ta σ H fun v H1 => sp [v] H1 Q E) : tCall sp [] E (tCons ta tNil) σ H Q := h
theorem op_of {r : R2} (h : ta σ H fun x H1 => tb σ H1 fun y H2 => r x y H2 Q) : tOp r ta tb σ H Q := h
theorem qfld_of {f : Str} (h : tb σ H fun y H1 => ta σ H1 fun x H2 => ∃ a C dx fs, x = .ref a ∧ H2 a = some (.ins C dx fs) ∧ Cls K C ∧ NoAttr K C f ∧ fs.length < 1000 ∧ tz D σ (upd H2 a (.ins C dx (putF f y fs)))) : tSeq (sFld K ta tb f) tz D σ H := h
theorem qdrop_of (h : te σ H fun _ H1 => tz D σ H1) : tSeq (tDrop te) tz D σ H := h
theorem listed_len (l : List Nat) : (Vbwbad.listed l).length = l.length + 1 := by
  unfold Vbwbad.listed
  rw [List.length_cons, List.length_map]
/-- n and a list told -/
theorem ev_toldL {n : Int} {l : List Nat} (hl : l.length ≤ 1000) (hx : Ev tx σ F R (zI n)) (h : Ev tl σ F R (zL zN l)) : Ev (tOp rCat (tLst (tCons tx tNil)) (tCall (sp_listed K A) [] E (tCons tl tNil))) σ F R (zL zI (n :: Vbwbad.listed l)) := by
  have e : ((l.map fun n : Nat => (n : Int)).length : Int) :: (l.map fun n : Nat => (n : Int)) = Vbwbad.listed l := by
    rw [List.length_map]
    rfl
  have h1 : Ev (tCall (sp_listed K A) [] E (tCons tl tNil)) σ F R (zL zI (((l.map fun n : Nat => (n : Int)).length : Int) :: (l.map fun n : Nat => (n : Int)))) :=
    ev_call (args := fun x : List Int => [zL zI x]) (pre := fun x _ _ => x.length < LB) (res := fun x => zL zI ((x.length : Int) :: x)) (l.map fun n : Nat => (n : Int)) (fun _ _ _ _ _ _ => by show (l.map fun n : Nat => (n : Int)).length < 20000; rw [List.length_map]; omega) (ea_cons (h.imp fun v F' _ p => zN_int p) ea_nil)
  rw [e] at h1
  exact ev_cat (l := [n]) (m := Vbwbad.listed l) (by show 1 + (Vbwbad.listed l).length ≤ 20000; rw [listed_len]; omega) (ev_lst1 (f := zI) hx) h1
/-- the same, the list given by what changes the house -/
theorem r_toldM {n : Int} {l : List Nat} {s' : S} (hl : l.length ≤ 1000) (sF : Same F H) (hx : Ev tx σ F H (zI n)) (hc : ∀ H1 F1, Fut F F1 H H1 → ∀ Q1 : VK, (∀ v H2 F2, FutB a F1 F2 H1 H2 → HouseAt A a s' F2 H2 → zL zN l v F2 → Q1 v H2) → tl σ H1 Q1)
    (q : ∀ v H2 F2, FutB a F F2 H H2 → HouseAt A a s' F2 H2 → zL zI (n :: Vbwbad.listed l) v F2 → Q v H2) : tOp rCat (tLst (tCons tx tNil)) (tCall (sp_listed K A) [] E (tCons tl tNil)) σ H Q := by
  refine op_of ((ev_lst1 (f := zI) (a := n) hx) sF H (Same.refl _) _ fun x H1 F1 u1 p1 => call1_of (hc H1 F1 u1 _ fun v H2 F2 u2 hA pv => ?_))
  refine ⟨l.map fun n : Nat => (n : Int), F2, u2.fh, .cons (zN_int pv) .nil, by show (l.map fun n : Nat => (n : Int)).length < 20000; rw [List.length_map]; omega, fun y H3 F3 u3 py => ?_⟩
  have e : ((l.map fun n : Nat => (n : Int)).length : Int) :: (l.map fun n : Nat => (n : Int)) = Vbwbad.listed l := by
    rw [List.length_map]
    rfl
  have py : zL zI (((l.map fun n : Nat => (n : Int)).length : Int) :: (l.map fun n : Nat => (n : Int))) y F3 := py
  rw [e] at py
  have e2 : Ev (tOp rCat (tVar 0) (tVar 1)) [some x, some y] F3 H3 (zL zI ([n] ++ Vbwbad.listed l)) := ev_cat (l := [n]) (m := Vbwbad.listed l) (by show 1 + (Vbwbad.listed l).length ≤ 20000; rw [listed_len]; omega) (ev_var rfl (up (u2.ff.trans u3.ff) p1)) (ev_var rfl py)
  obtain ⟨x', hx', y', hy', e3⟩ := e2 u3.fh H3 (Same.refl _) Q fun v H4 F4 f4 p4 => q v H4 F4 ((((FutB.of u1).trans u2).grow u3).grow f4) ((hA.fut u3).fut f4) p4
  cases hx'
  cases hy'
  exact e3
theorem q_wl {l : List Int} (sF : Same F H) (hD : DeskAt A d s F H) (wf : WF s) (ha : Ev ta σ F H (zAt d)) (hl : Ev tl σ F H (zL zI l)) (hr : Vbwbad.vecIn s l = none → Rf A E F H (-2)) (hk : ∀ v, Vbwbad.vecIn s l = some v → ∀ H1, Fut F F H H1 → tz D σ H1) :
    tSeq (tDrop (tMeth A.D "want_list" (sp_Desk_want_list K A) [] E ta (tCons tl tNil))) tz D σ H := by
  refine r_wm (args := fun x : Addr × S × List Int => [zL zI x.2.2]) (pre := fun _ => True) (res := fun _ => zNo) l sF hD wf trivial (by decide +kernel) ha (ea_cons hl ea_nil) (fun n h => ?_) fun h v H2 F' u _ => ?_
  · cases e : Vbwbad.vecIn s l with
    | none =>
      have h : (if (Vbwbad.vecIn s l).isSome = true then none else some (-2 : Int)) = some n := h
      rw [e] at h
      cases h
      exact hr e
    | some v =>
      have h : (if (Vbwbad.vecIn s l).isSome = true then none else some (-2 : Int)) = some n := h
      rw [e] at h
      cases h
  · cases e : Vbwbad.vecIn s l with
    | none =>
      have h : (if (Vbwbad.vecIn s l).isSome = true then none else some (-2 : Int)) = none := h
      rw [e] at h
      cases h
    | some v => exact hk v e H2 (Fut.grow sF u.hh)
theorem lst1_of (h : te σ H fun v H1 => ∀ p, H1 p = none → Q (.ref p) (upd H1 p (.lst [v]))) (hm : ∀ (Q1 Q2 : VK), (∀ v H, Q1 v H → Q2 v H) → te σ H Q1 → te σ H Q2) : tLst (tCons te tNil) σ H Q :=
  hm _ _ (fun v H1 q => ⟨by show 1 ≤ sizeLine; decide, q⟩) h
end
/-! ### what the desk answers -/
def toldA (p : S × List Nat) : Ans := .ok (p.1, 0 :: Vbwbad.listed p.2)
theorem rec_len {s : S} (wf : WF s) : (Vbwbad.reconsidered s).2.length ≤ 10 := Nat.le_trans (again_len _ _) (Nat.le_trans (wait_len s) wf.few)
def sp_Desk_looked_again (K : PySem.W.Frag) (A : Adr) : Sp := dSp A (α := Unit) (fun _ => []) (fun _ => True) (fun x => toldA (Vbwbad.reconsidered x.2.1))
theorem ok_Desk_looked_again (T : TxD K mg A) : MF P w K mg base CX0 8 A.D "looked_again" ["self"] (sp_Desk_looked_again K A) :=
  T.f_Desk_looked_again.mf fun f fd Fn => body_okD0 Fn sc_Desk_looked_again (fun _ => rfl) fun cdv B0 outer s H E hr => by
    refine ⟨_, (pss_one (ps_ret (pe_op op_cat (pe_lst (pa_cons pe_int pa_nil)) (pe_callF (ok_listed T) (hr.mono (by decide)) pass0 (pa_cons (pe_methF0 (ok_House_look_again T.toTxt) (hr.mono (by decide)) pass0 (pe_fld (pv 0) rfl)) pa_nil))))), fun d st x F vs Q sF av hD wf pr k2 => ?_⟩
    obtain ⟨u, rfl, p0⟩ := av.one
    obtain rfl : u = .ref d := p0
    obtain ⟨a, hD⟩ := hD
    have hl := rec_len wf
    refine r_toldM (E := E0) (n := 0) (l := (Vbwbad.reconsidered st).2) (s' := (Vbwbad.reconsidered st).1) (a := a) (by omega) sF ev_int (fun H1 F1 u1 Q1 q1 => ?_) fun v H2 F2 u2 hA pv => k2 _ _ rfl v H2 F2 (.ofB hD.2.2 u2) ⟨a, hD.futB u2 hA⟩ pv
    exact r_hM (E := E0) (next := fun x : Addr × S × Unit => (Vbwbad.reconsidered x.2.1).1) (res := fun x => zL zN (Vbwbad.reconsidered x.2.1).2) () u1.fh (hD.fut u1).2.2 wf trivial (by decide +kernel) (ev_house T (hD.fut u1) (ev_var rfl zAt_rfl)) ea_nil q1
section
variable {σ : L2.St} {F H R : Hp} {ta : TE} {E : XK} {d : Addr} {s : S} {D : Ends}
/-- return self.looked_again() -/
theorem s_look (sF : Same F H) (hD : DeskAt A d s F H) (wf : WF s) (ha : Ev ta σ F H (zAt d)) (hq : ∀ v H2 F', FutD F F' H H2 → DeskAt A d (Vbwbad.reconsidered s).1 F' H2 → zL zI (0 :: Vbwbad.listed (Vbwbad.reconsidered s).2) v F' → D.rt v H2) : tRet (tMeth A.D "looked_again" (sp_Desk_looked_again K A) [] E ta tNil) D σ H :=
  r_dm (args := fun _ : Addr × S × Unit => []) (pre := fun _ => True) (out := fun x => toldA (Vbwbad.reconsidered x.2.1)) () sF hD wf trivial (by decide +kernel) ha ea_nil (fun n h => by cases h) fun s' l h v H2 F' u hD2 pv => by
    cases h
    exact hq v H2 F' u hD2 pv
end
def begB (l : List Int) : Bool := decide (1 ≤ l.length) && (decide (l.length ≤ 6) && numB l)
def beginO (l : List Int) : Ans := if begB l = true then .ok (⟨l.map Int.toNat, [], 0⟩, [0]) else .error (-2)
def sp_Desk_begin (K : PySem.W.Frag) (A : Adr) : Sp := dSp A (α := List Int) (fun x => [zL zI x.2.2]) (fun _ => True) (fun x => beginO x.2.2)
theorem ok_Desk_begin (T : TxD K mg A) : MF P w K mg base (L2.CX P w) 5 A.D "begin" ["self", "row"] (sp_Desk_begin K A) :=
  T.f_Desk_begin.mf fun f fd Fn => body_okD Fn sc_Desk_begin (fun _ => rfl) fun cdv B0 outer s H E hr => by
    refine ⟨_, (pss_cons (ps_expr (pe_callF (ok_want T) (hr.mono (by decide)) (passes_call (takes_of rfl rfl rfl rfl) (fun _ _ _ _ h => h)) (pa_cons (pe_and (pe_chain op_le op_le pe_int (pe_callB call_len_seq rfl T.b_len (by decide +kernel) (pa_cons (pv 1) pa_nil)) (pe_glob (v := .int (6)) rfl T.c_MOST_KINDS ⟨_, rfl⟩)) (pe_one (pe_callF (ok_are_numbers T) (hr.mono (by decide)) pass0 (pa_cons (pv 1) pa_nil)))) (pa_cons (pe_glob (v := .int (-2)) rfl T.c_BAD_ROW ⟨_, rfl⟩) pa_nil))))
      (pss_cons (ps_fld (pv 0) (pe_makeF (ok_House_init T.toTxt) (hr.mono (by decide)) pass0 (pa_cons (pe_callTy call_list_of rfl T.b_list (by decide +kernel) (pa_cons (pv 1) pa_nil)) pa_nil)) rfl)
      (pss_one (ps_ret (pe_lst (pa_cons pe_int pa_nil)))))), fun d st l F vs Q sF av hD wf pr k1 k2 => ?_⟩
    obtain ⟨u, ul, rfl, p0, p1⟩ := av.two
    obtain rfl : u = .ref d := p0
    obtain ⟨a, hD⟩ := hD
    have p1 : zL zI l ul F := p1
    refine q_want sF (b := begB l) (n := -2) ?_ (ev_c rfl) (fun h => k1 _ (by show beginO l = _; unfold beginO; rw [h]; rfl)) fun h H1 f1 => ?_
    · unfold begB
      rw [← Bool.and_assoc]
      refine ev_andV (Ev.bl ?_ (ev_chain (g := fun i j => decide (i ≤ j)) (g' := fun i j => decide (i ≤ j)) (i := 1) (j := (l.length : Int)) (l := 6) ev_int (ev_len (ea_cons (ev_var rfl p1) ea_nil)) (ev_c rfl))) fun _ => ev_call l pr0 (ea_cons (ev_var rfl p1) ea_nil)
      have e1 : decide ((1 : Int) ≤ (l.length : Int)) = decide (1 ≤ l.length) := decide_eq_decide.mpr (by omega)
      have e2 : decide ((l.length : Int) ≤ 6) = decide (l.length ≤ 6) := decide_eq_decide.mpr (by omega)
      rw [e1, e2]
    · have hn : numB l = true := by
        unfold begB at h
        rw [Bool.and_eq_true, Bool.and_eq_true] at h
        exact h.2.2
      have e1 : Ev (tCB (fun xs H Q => ∃ p ys, xs = [.ref p] ∧ (SqL K H p ys ∨ SqT K H p ys) ∧ ∀ l, H l = none → Q (.ref l) (upd H l (.lst ys))) (tCons (tVar 1) tNil)) [some (.ref d), some ul] F H1 (zV (l.map Int.toNat)) := (ev_list (K := K) (ea_cons (ev_var rfl p1) ea_nil)).imp fun v F' _ p => zN_of (fun x hx => (numB_nn hn x hx).1) p
      refine qfld_of (make_house (K := K) (A := A) (E := E0) f1.fh (ea_cons e1 ea_nil) fun a' H2 F2 u2 na hA2 => ?_)
      have hD2 := (hD.fut f1).fut u2
      obtain ⟨fd2, ⟨dx, q2⟩, _⟩ := id hD2
      have ne : a' ≠ d := fun z => by
        obtain ⟨_, ⟨dx1, q1⟩, _⟩ := hD.fut f1
        rw [z, q1] at na
        cases na
      have e2 : putF "house" (.ref a') ([(("house" : Str), .ref a)] : List (Str × V)) = [(("house" : Str), .ref a')] := put_here
      refine ⟨_, rfl, d, A.D, dx, _, rfl, q2, T.c_D, T.n_D_house, (by show 1 < 1000; decide), ?_⟩
      rw [e2]
      have fh : Same F2 (upd H2 d (.ins A.D dx [(("house" : Str), .ref a')])) := fun b o e => by
        rw [upd_ne (ne_of_none e fd2)]
        exact u2.fh b o e
      have fud : FutD F F2 H (upd H2 d (.ins A.D dx [(("house" : Str), .ref a')])) := by
        have u := f1.trans u2
        refine ⟨u.ff, fh, fun b us e => ?_, u.nw, fun b e => ?_⟩
        · have nb : b ≠ d := fun z => by
            obtain ⟨_, ⟨dx1, q1⟩, _⟩ := hD
            rw [z, q1] at e
            cases e
          rw [upd_ne nb]
          exact u.hh b _ e
        · by_cases nb : b = d
          · rw [nb, upd_same]
            exact fun z => by cases z
          · rw [upd_ne nb]
            exact same_ne u.hh e
      have hD3 : DeskAt A d ⟨l.map Int.toNat, [], 0⟩ F2 (upd H2 d (.ins A.D dx [(("house" : Str), .ref a')])) := ⟨a', fd2, ⟨dx, upd_same⟩, hA2.off (.inr (Ne.symm ne))⟩
      refine s_ret fh (P := zL zI [0]) (ev_lst1 (f := zI) (a := 0) ev_int) fun v H4 F4 f4 pv => k2 ⟨l.map Int.toNat, [], 0⟩ [0] (by show beginO l = _; unfold beginO; rw [h]; rfl) v H4 F4 (fud.trans (.of f4)) (hD3.fut f4) pv
def okRow (s : S) (r : List Int) : Bool := (Vbwbad.vecIn s r).any fun v => Vbwbad.within v s.totals
def addO (s : S) (i : Nat) (rows : List (List Int)) : Ans := if (decide (1 ≤ rows.length) && decide (rows.length ≤ 4)) = false then .error (-2) else if rows.all (okRow s) = false then .error (-2) else if (Vbwbad.batchOf s i).isSome = true then .error (-3) else if 10 ≤ s.batches.length then .error (-6)
  else .ok (⟨s.totals, s.batches ++ [⟨i, rows.map fun r => r.map Int.toNat, Vbwbad.zero s, none⟩], s.next⟩, [0])
def sp_Desk_add_batch (K : PySem.W.Frag) (A : Adr) : Sp := dSp A (α := Nat × List (List Int)) (fun x => [zN x.2.2.1, zL (zL zI) x.2.2.2]) (fun _ => True) (fun x => addO x.2.1 x.2.2.1 x.2.2.2)
theorem ok_Desk_add_batch (T : TxD K mg A) : MF P w K mg base (L2.CX P w) 6 A.D "add_batch" ["self", "number", "rows"] (sp_Desk_add_batch K A) :=
  T.f_Desk_add_batch.mf fun f fd Fn => body_okD Fn sc_Desk_add_batch (fun _ => rfl) fun cdv B0 outer s H E hr => by
    refine ⟨_, (pss_cons (ps_expr (pe_callF (ok_want T) (hr.mono (by decide)) (passes_call (takes_of rfl rfl rfl rfl) (fun _ _ _ _ h => h)) (pa_cons (pe_chain op_le op_le pe_int (pe_callB call_len_seq rfl T.b_len (by decide +kernel) (pa_cons (pv 2) pa_nil)) (pe_glob (v := .int (4)) rfl T.c_MOST_ALTERNATIVES ⟨_, rfl⟩)) (pa_cons (pe_glob (v := .int (-2)) rfl T.c_BAD_ROW ⟨_, rfl⟩) pa_nil))))
      (pss_cons (ps_for (passes_of rfl) rfl (pi_list (pv 2)) (pg_name (i := 3) sc_Desk_add_batch.nd rfl (Or.inl rfl))
      (pss_cons (ps_expr (pe_methF (ok_Desk_want_list T) (hr.mono (by decide)) (passes_call (takes_of rfl rfl rfl rfl) (fun _ _ _ _ h => h)) (pv 0) (pa_cons (pv 3) pa_nil)))
      (pss_one (ps_expr (pe_callF (ok_want T) (hr.mono (by decide)) (passes_call (takes_of rfl rfl rfl rfl) (fun _ _ _ _ h => h)) (pa_cons (pe_callF (ok_is_within T.toTxt) (hr.mono (by decide)) pass0 (pa_cons (pv 3) (pa_cons (pe_fld (pe_fld (pv 0) rfl) rfl) pa_nil))) (pa_cons (pe_glob (v := .int (-2)) rfl T.c_BAD_ROW ⟨_, rfl⟩) pa_nil)))))))
      (pss_cons (ps_expr (pe_callF (ok_want T) (hr.mono (by decide)) (passes_call (takes_of rfl rfl rfl rfl) (fun _ _ _ _ h => h)) (pa_cons (pe_cmpR op_isN (pe_methF (ok_House_find T.toTxt) (hr.mono (by decide)) pass0 (pe_fld (pv 0) rfl) (pa_cons (pv 1) pa_nil)) pe_non (nomark _)) (pa_cons (pe_glob (v := .int (-3)) rfl T.c_THERE_ALREADY ⟨_, rfl⟩) pa_nil))))
      (pss_cons (ps_expr (pe_callF (ok_want T) (hr.mono (by decide)) (passes_call (takes_of rfl rfl rfl rfl) (fun _ _ _ _ h => h)) (pa_cons (pe_cmpR op_lt (pe_callB call_len_seq rfl T.b_len (by decide +kernel) (pa_cons (pe_fld (pe_fld (pv 0) rfl) rfl) pa_nil)) (pe_glob (v := .int (10)) rfl T.c_MOST_BATCHES ⟨_, rfl⟩) (nomark _)) (pa_cons (pe_glob (v := .int (-6)) rfl T.c_FULL ⟨_, rfl⟩) pa_nil))))
      (pss_cons (ps_expr (pe_methF (ok_House_add T.toTxt) (hr.mono (by decide)) pass0 (pe_fld (pv 0) rfl) (pa_cons (pv 1) (pa_cons (pe_lc (own := [("row", 3)]) (g := (gName 3)) (tt := tYes) (te := (tCB (fun xs H Q => ∃ p ys, xs = [.ref p] ∧ (SqL K H p ys ∨ SqT K H p ys) ∧ ∀ l, H l = none → Q (.ref l) (upd H l (.lst ys))) (tCons (tVar 3) tNil))) rfl sc_Desk_add_batch.nd (pi_list (pv 2)) (blkOk_by (N := ["self", "number", "rows", "row"]) (sc := defScope s_Desk_add_batch) (own := [("row", 3)]) (by decide +kernel)) (fun _ _ _ _ _ => (pg_name (i := 3) sc_Desk_add_batch.nd rfl (Or.inl rfl))) (fun _ _ _ _ _ => pts_nil) (fun _ _ _ _ _ => (pe_callTy call_list_of rfl T.b_list (by decide +kernel) (pa_cons (pv 3) pa_nil)))) pa_nil))))
      (pss_one (ps_ret (pe_lst (pa_cons pe_int pa_nil))))))))), fun d st x F vs Q sF av hD wf pr k1 k2 => ?_⟩
    obtain ⟨i, rows⟩ := x
    obtain ⟨u, un, ul, rfl, p0, p1, p2⟩ := av.three
    obtain rfl : u = .ref d := p0
    obtain ⟨a, hD⟩ := hD
    have p2 : zL (zL zI) rows ul F := p2
    refine q_want sF (b := decide (1 ≤ rows.length) && decide (rows.length ≤ 4)) (n := -2) (Ev.bl ?_ (ev_chain (g := fun i j => decide (i ≤ j)) (g' := fun i j => decide (i ≤ j)) (i := 1) (j := (rows.length : Int)) (l := 4) ev_int (ev_len (ea_cons (ev_var rfl p2) ea_nil)) (ev_c rfl))) (ev_c rfl) (fun h => k1 _ (by show addO st i rows = _; unfold addO; rw [if_pos h])) fun h H1 f1 => ?_
    · have e1 : decide ((1 : Int) ≤ (rows.length : Int)) = decide (1 ≤ rows.length) := decide_eq_decide.mpr (by omega)
      have e2 : decide ((rows.length : Int) ≤ 4) = decide (rows.length ≤ 4) := decide_eq_decide.mpr (by omega)
      rw [e1, e2]
    · have hn : ¬ (decide (1 ≤ rows.length) && decide (rows.length ≤ 4)) = false := by
        rw [h]
        exact fun z => by cases z
      have bad : ∀ r ∈ rows, okRow st r = false → Rf A E F H (-2) := fun r hr hb => k1 _ (by
        show addO st i rows = _
        unfold addO
        rw [if_neg hn, if_pos]
        cases e : rows.all (okRow st) with
        | false => rfl
        | true =>
          rw [List.all_eq_true.mp e r hr] at hb
          cases hb)
      refine q_for f1.fh (ei_list (f := fun r : List Int => zL zI r) (ev_var rfl p2)) fun H2 F2 fu2 => ⟨fun j σ F' H' => Fut F F' H H' ∧ Same F2 F' ∧ (∃ x3, σ = [some (.ref d), some un, some ul, x3]) ∧ ∀ r ∈ rows.take j, okRow st r = true, ⟨f1.trans fu2, Same.refl _, ⟨none, rfl⟩, fun r hr => by cases hr⟩, fun j σ F' H' q => ⟨q.2.1, q.1.fh⟩, ?_, ?_⟩
      · rintro j r y σ F' Hc F3 H3 hb ⟨fu3, sf, ⟨x3, rfl⟩, hok⟩ fx gx
        have fa := fu3.trans fx
        have hD3 := hD.fut fa
        have hmem : r ∈ rows := List.mem_of_getElem? hb
        have gx : zL zI r y F3 := gx
        refine b_g (q_wl fx.fh ⟨a, hD3⟩ wf (ev_var rfl zAt_rfl) (ev_var rfl gx) (fun hv => (bad r hmem (by unfold okRow; rw [hv]; rfl)).later fa) fun v hv H4 f4 => ?_)
        obtain ⟨ev, _, hnn, _⟩ := vecIn_some hv
        have gv : zV v y F3 := by
          rw [ev]
          exact zN_of hnn gx
        refine st_want f4.fh (b := Vbwbad.within v st.totals) (n := -2) (ev_call (v, st.totals) pr0 (ea_cons (ev_var rfl gv) (ea_cons (ev_tot T.toTxt (hD3.fut f4).2.2 (ev_house T (hD3.fut f4) (ev_var rfl zAt_rfl))) ea_nil))) (ev_c rfl) (fun hw => (bad r hmem (by unfold okRow; rw [hv]; exact hw)).later (fa.trans f4)) fun hw H5 f5 => ⟨F3, (fa.trans f4).trans f5, sf.trans fx.ff, ⟨some y, rfl⟩, fun r' hr' => ?_⟩
        rw [take_more hb, List.mem_append] at hr'
        rcases hr' with hr' | hr'
        · exact hok r' hr'
        · rw [List.mem_singleton.mp hr']
          unfold okRow
          rw [hv]
          exact hw
      · rintro σ F' H' ⟨fu3, sf, ⟨x3, rfl⟩, hok⟩
        rw [List.take_length] at hok
        have hall : rows.all (okRow st) = true := List.all_eq_true.mpr hok
        have hn2 : ¬ rows.all (okRow st) = false := by
          rw [hall]
          exact fun z => by cases z
        have hD3 := hD.fut fu3
        refine q_want fu3.fh (b := (Vbwbad.batchOf st i).isNone) (n := -3) (ev_isN (b := (Vbwbad.batchOf st i).isNone) (fun v F' p => zOB_isNo p) (ev_hm (res := fun x : Addr × S × Nat => zOB A (Vbwbad.batchOf x.2.1 x.2.2)) i hD3.2.2 wf trivial (by decide +kernel) (ev_house T hD3 (ev_var rfl zAt_rfl)) (ea_cons (ev_var rfl (up fu3.ff p1)) ea_nil))) (ev_c rfl) (fun hb => (k1 _ ?_).later fu3) fun hb H4 f4 => ?_
        · show addO st i rows = _
          unfold addO
          rw [if_neg hn, if_neg hn2, if_pos]
          cases e : Vbwbad.batchOf st i with
          | none =>
            rw [e] at hb
            cases hb
          | some b => rfl
        · have hno : Vbwbad.batchOf st i = none := by
            cases e : Vbwbad.batchOf st i with
            | none => rfl
            | some b =>
              rw [e] at hb
              cases hb
          have hn3 : ¬ (Vbwbad.batchOf st i).isSome = true := by
            rw [hno]
            exact fun z => by cases z
          have fu4 := fu3.trans f4
          have hD4 := hD.fut fu4
          refine q_want f4.fh (b := decide (st.batches.length < 10)) (n := -6) (Ev.bl (decide_eq_decide.mpr (by omega)) (ev_lt (i := (st.batches.length : Int)) (j := 10) (ev_len (ea_cons (ev_bts T.toTxt hD4.2.2 (ev_house T hD4 (ev_var rfl zAt_rfl))) ea_nil)) (ev_c rfl))) (ev_c rfl) (fun hb => (k1 _ ?_).later fu4) fun hb H5 f5 => ?_
          · show addO st i rows = _
            have := of_decide_eq_false hb
            unfold addO
            rw [if_neg hn, if_neg hn2, if_neg hn3, if_pos (by omega)]
          · have hlt := of_decide_eq_true hb
            have fu5 := fu4.trans f5
            have hD5 := hD.fut fu5
            have e1 := ev_lcA (r := zV) (te := tCB (fun xs H Q => ∃ p ys, xs = [.ref p] ∧ (SqL K H p ys ∨ SqT K H p ys) ∧ ∀ l, H l = none → Q (.ref l) (upd H l (.lst ys))) (tCons (tVar 3) tNil)) (vs := [3]) (tg := gName 3) (σ := [some (.ref d), some un, some ul, x3]) (F := F') (R := H5) (fun r : List Int => r.map Int.toNat) (zL_le p2) (ei_list (K := K) (f := fun r : List Int => zL zI r) (ev_var (i := 2) rfl (up fu5.ff p2))) fun r hr y F6 R6 s1 s2 s3 g => by
              refine ⟨_, b_name, rfl, (ev_list (K := K) (ea_cons (ev_var rfl g) ea_nil)).imp fun v F7 _ p => zN_of ?_ p⟩
              have hk := hok r hr
              unfold okRow at hk
              cases hv : Vbwbad.vecIn st r with
              | none =>
                rw [hv] at hk
                cases hk
              | some v => exact (vecIn_some hv).2.2.1
            refine qdrop_of (r_hM (args := fun x : Addr × S × Nat × List Vec => [zN x.2.2.1, zL zV x.2.2.2]) (pre := fun _ => True) (next := fun x => ⟨x.2.1.totals, x.2.1.batches ++ [⟨x.2.2.1, x.2.2.2, Vbwbad.zero x.2.1, none⟩], x.2.1.next⟩) (res := fun _ => zNo) (E := E0) (i, rows.map fun r => r.map Int.toNat) f5.fh hD5.2.2 wf trivial (by decide +kernel) (ev_house T hD5 (ev_var rfl zAt_rfl)) (ea_cons (ev_var rfl (up fu5.ff p1)) (ea_cons e1 ea_nil)) fun v H6 F6 u6 hA6 _ => ?_)
            have fud := (FutD.of fu5).trans (.ofB hD5.2.2 u6)
            have hD6 := hD5.futB u6 hA6
            refine s_ret u6.fh (P := zL zI [0]) (ev_lst1 (f := zI) (a := 0) ev_int) fun v H7 F7 f7 pv => k2 _ [0] ?_ v H7 F7 (fud.trans (.of f7)) (DeskAt.fut ⟨a, hD6⟩ f7) pv
            show addO st i rows = _
            unfold addO
            rw [if_neg hn, if_neg hn2, if_neg hn3, if_neg (by omega)]
end
end G
end

section
set_option Elab.async false
set_option linter.all false
set_option maxRecDepth 100000
set_option maxHeartbeats 4000000
namespace G
open PySem PySem.Spec PyProof.Rows L2
theorem end_len : ∀ (f : Vec) (l : List B), (endAll f l).1.length + (endAll f l).2.length ≤ l.length := by
  refine endAll_ind (C := fun f l => (endAll f l).1.length + (endAll f l).2.length ≤ l.length) (fun f l e => ?_) fun f l b e ih => ?_
  · rw [endAll_none e]
    exact Nat.le_of_eq (Nat.zero_add _)
  · rw [endAll_some e]
    have := wo_length_lt (List.mem_of_find?_eq_some e)
    rw [List.length_cons]
    have ih : (endAll (Vbwbad.plus f b.holds) (wo l b.id)).1.length + (endAll (Vbwbad.plus f b.holds) (wo l b.id)).2.length ≤ (wo l b.id).length := ih
    show (endAll (Vbwbad.plus f b.holds) (wo l b.id)).1.length + 1 + (endAll (Vbwbad.plus f b.holds) (wo l b.id)).2.length ≤ _
    omega
theorem going_len : ∀ (n : Nat) (f : Vec) (l : List B), (Vbwbad.going n f l).length ≤ l.length
  | 0, f, l => Nat.le_refl _
  | n + 1, f, l => by
    unfold Vbwbad.going
    split
    · exact Nat.le_refl _
    · rename_i b _
      exact Nat.le_trans (going_len n _ _) (List.length_filter_le _ _)
theorem given_none {s : S} {b : B} {v : Vec} (h : b.want = none) : Vbwbad.given s b v = ⟨s.totals, giveB s b v, s.next⟩ := by
  unfold Vbwbad.given Vbwbad.put giveB moreOf
  rw [h]
section
variable {P : Program} {w : World} {K : PySem.W.Frag} {mg : Str → Option Value} {base : Heap} {A : Adr}
section
variable {σ : L2.St} {F H R : Hp} {te : TE} {ta tb : TE} {E : XK} {Q : VK} {d a : Addr} {s : S} {D : Ends}
theorem ev_bit1 {b : Bool} (h : Ev te σ F R (zB b)) : Ev (tLst (tCons (tCB (fun xs H Q => (∃ i, xs = [.int i] ∧ Q (.int i) H) ∨ ∃ k, xs = [.bl k] ∧ Q (.int (if k then 1 else 0)) H) (tCons te tNil)) tNil)) σ F R (zL zI [Vbwbad.bit b]) := by
  have := ev_lst1 (f := zI) (a := Vbwbad.bit b) (te := tCB (fun xs H Q => (∃ i, xs = [.int i] ∧ Q (.int i) H) ∨ ∃ k, xs = [.bl k] ∧ Q (.int (if k then 1 else 0)) H) (tCons te tNil)) (σ := σ) (F := F) (R := R) (ev_intB (ea_cons h ea_nil))
  exact this
/-- the same, of what changes the house -/
theorem r_bit1 (h : te σ H fun v H1 => (∃ i, [v] = [V.int i] ∧ (1 ≤ sizeLine ∧ ∀ p, H1 p = none → Q (.ref p) (upd H1 p (.lst [.int i])))) ∨ ∃ k, [v] = [V.bl k] ∧ (1 ≤ sizeLine ∧ ∀ p, H1 p = none → Q (.ref p) (upd H1 p (.lst [.int (if k then 1 else 0)])))) : tLst (tCons (tCB (fun xs H Q => (∃ i, xs = [.int i] ∧ Q (.int i) H) ∨ ∃ k, xs = [.bl k] ∧ Q (.int (if k then 1 else 0)) H) (tCons te tNil)) tNil) σ H Q := h
end
def askO (s : S) (b : B) (l : List Int) : Ans := vq s l fun v => if b.want.isSome = true then .error (-7) else if Vbwbad.mayAsk b v = false then .error (-4) else .ok (askNext s b v, [Vbwbad.bit (canGrantP s b v)])
def sp_Desk_ask (K : PySem.W.Frag) (A : Adr) : Sp := dSp A (α := B × List Int) (fun x => [zBat A x.2.2.1, zL zI x.2.2.2]) (fun _ => True) (fun x => askO x.2.1 x.2.2.1 x.2.2.2)
theorem ok_Desk_ask (T : TxD K mg A) : MF P w K mg base (L2.CX P w) 8 A.D "ask" ["self", "batch", "row"] (sp_Desk_ask K A) :=
  T.f_Desk_ask.mf fun f fd Fn => body_okD Fn sc_Desk_ask (fun _ => rfl) fun cdv B0 outer s H E hr => by
    refine ⟨_, (pss_cons (ps_expr (pe_methF (ok_Desk_want_list T) (hr.mono (by decide)) (passes_call (takes_of rfl rfl rfl rfl) (fun _ _ _ _ h => h)) (pv 0) (pa_cons (pv 2) pa_nil)))
      (pss_cons (ps_expr (pe_callF (ok_want T) (hr.mono (by decide)) (passes_call (takes_of rfl rfl rfl rfl) (fun _ _ _ _ h => h)) (pa_cons (pe_cmpR op_isN (pe_fld (pv 1) rfl) pe_non (nomark _)) (pa_cons (pe_glob (v := .int (-7)) rfl T.c_WAITING ⟨_, rfl⟩) pa_nil))))
      (pss_cons (ps_expr (pe_callF (ok_want T) (hr.mono (by decide)) (passes_call (takes_of rfl rfl rfl rfl) (fun _ _ _ _ h => h)) (pa_cons (pe_methF (ok_Batch_may_get T.toTxt) (hr.mono (by decide)) pass0 (pv 1) (pa_cons (pv 2) pa_nil)) (pa_cons (pe_glob (v := .int (-4)) rfl T.c_NOT_SO_MUCH ⟨_, rfl⟩) pa_nil))))
      (pss_one (ps_ret (pe_lst (pa_cons (pe_callTy call_int1 rfl T.b_int (by decide +kernel) (pa_cons (pe_methF (ok_House_ask T.toTxt) (hr.mono (by decide)) pass0 (pe_fld (pv 0) rfl) (pa_cons (pv 1) (pa_cons (pe_callTy call_list_of rfl T.b_list (by decide +kernel) (pa_cons (pv 2) pa_nil)) pa_nil))) pa_nil)) pa_nil))))))), fun d st x F vs Q sF av hD wf pr k1 k2 => ?_⟩
    obtain ⟨b, l⟩ := x
    obtain ⟨u, ub, ul, rfl, p0, p1, p2⟩ := av.three
    obtain rfl : u = .ref d := p0
    obtain ⟨a, hD⟩ := hD
    have p1 : zBat A b ub F := p1
    have p2 : zL zI l ul F := p2
    refine q_wl sF ⟨a, hD⟩ wf (ev_var rfl zAt_rfl) (ev_var rfl p2) (fun hv => k1 _ (by show askO st b l = _; exact vq_none hv)) fun v hv H1 f1 => ?_
    obtain ⟨evv, _, hnn, _⟩ := vecIn_some hv
    have pv : zV v ul F := by
      rw [evv]
      exact zN_of hnn p2
    have eo : askO st b l = (if b.want.isSome = true then .error (-7) else if Vbwbad.mayAsk b v = false then .error (-4) else .ok (askNext st b v, [Vbwbad.bit (canGrantP st b v)])) := vq_some hv
    refine q_want f1.fh (b := b.want.isNone) (n := -7) (ev_isN (fun v F' p => zW_none p) (ev_fld hf_request T.c_B T.n_B_request (ev_var rfl p1))) (ev_c rfl) (fun h => (k1 _ ?_).later f1) fun h H2 f2 => ?_
    · show askO st b l = _
      rw [eo, if_pos]
      cases e : b.want with
      | none =>
        rw [e] at h
        cases h
      | some x => rfl
    · have hw : b.want = none := by
        cases e : b.want with
        | none => rfl
        | some x =>
          rw [e] at h
          cases h
      have hn1 : ¬ b.want.isSome = true := by
        rw [hw]
        exact fun z => by cases z
      have fu2 := f1.trans f2
      refine q_want f2.fh (b := Vbwbad.mayAsk b v) (n := -4) (ev_meth (P := zBat A b) (b, v) (ins_bat (by decide +kernel)) pr0 rfl (ev_var rfl p1) (ea_cons (ev_var rfl pv) ea_nil)) (ev_c rfl) (fun h => (k1 _ ?_).later fu2) fun h H3 f3 => ?_
      · show askO st b l = _
        rw [eo, if_neg hn1, if_pos h]
      · have hn2 : ¬ Vbwbad.mayAsk b v = false := by
          rw [h]
          exact fun z => by cases z
        have fu3 := fu2.trans f3
        have hD3 := hD.fut fu3
        have e1 : Ev (tCB (fun xs H Q => ∃ p ys, xs = [.ref p] ∧ (SqL K H p ys ∨ SqT K H p ys) ∧ ∀ l, H l = none → Q (.ref l) (upd H l (.lst ys))) (tCons (tVar 2) tNil)) [some (.ref d), some ub, some ul] F H3 (zV v) := (ev_list (K := K) (ea_cons (ev_var rfl pv) ea_nil))
        show tLst (tCons (tCB _ (tCons _ tNil)) tNil) _ H3 Q
        refine r_bit1 (r_hM (args := fun x : Addr × S × B × Vec => [zBat A x.2.2.1, zV x.2.2.2]) (pre := fun _ => True) (next := fun x => askNext x.2.1 x.2.2.1 x.2.2.2) (res := fun x => zB (canGrantP x.2.1 x.2.2.1 x.2.2.2)) (E := E0) (b, v) f3.fh hD3.2.2 wf trivial (by decide +kernel) (ev_house T hD3 (ev_var rfl zAt_rfl)) (ea_cons (ev_var rfl p1) (ea_cons e1 ea_nil)) fun y H4 F4 u4 hA4 py => .inr ⟨canGrantP st b v, by rw [show y = .bl (canGrantP st b v) from py], by show 1 ≤ sizeLine; decide, fun p hp => ?_⟩)
        · have f5 := Fut.new (o := HO.lst [.int (Vbwbad.bit (canGrantP st b v))]) u4.fh hp
          have fud := ((FutD.of fu3).trans (.ofB hD3.2.2 u4)).trans (.of f5)
          refine k2 _ [Vbwbad.bit (canGrantP st b v)] ?_ _ _ _ fud (DeskAt.fut ⟨a, hD3.futB u4 hA4⟩ f5) ⟨p, _, rfl, upd_same, .cons rfl .nil, by show 1 ≤ 20000; decide⟩
          show askO st b l = _
          rw [eo, if_neg hn1, if_neg hn2]
def giveO (s : S) (b : B) (l : List Int) : Ans := vq s l fun v => if Vbwbad.mayAsk b v = false then .error (-4) else if Vbwbad.within v (Vbwbad.free s) = false then .error (-5) else .ok (⟨s.totals, giveB s b v, s.next⟩, [Vbwbad.bit (safeB (Vbwbad.free ⟨s.totals, giveB s b v, s.next⟩) (giveB s b v))])
def sp_Desk_give (K : PySem.W.Frag) (A : Adr) : Sp := dSp A (α := B × List Int) (fun x => [zBat A x.2.2.1, zL zI x.2.2.2]) (fun x => x.2.2.1 ∈ x.2.1.batches) (fun x => giveO x.2.1 x.2.2.1 x.2.2.2)
theorem ok_Desk_give (T : TxD K mg A) : MF P w K mg base (L2.CX P w) 7 A.D "give" ["self", "batch", "row"] (sp_Desk_give K A) :=
  T.f_Desk_give.mf fun f fd Fn => body_okD Fn sc_Desk_give (fun _ => rfl) fun cdv B0 outer s H E hr => by
    refine ⟨_, (pss_cons (ps_expr (pe_methF (ok_Desk_want_list T) (hr.mono (by decide)) (passes_call (takes_of rfl rfl rfl rfl) (fun _ _ _ _ h => h)) (pv 0) (pa_cons (pv 2) pa_nil)))
      (pss_cons (ps_expr (pe_callF (ok_want T) (hr.mono (by decide)) (passes_call (takes_of rfl rfl rfl rfl) (fun _ _ _ _ h => h)) (pa_cons (pe_methF (ok_Batch_may_get T.toTxt) (hr.mono (by decide)) pass0 (pv 1) (pa_cons (pv 2) pa_nil)) (pa_cons (pe_glob (v := .int (-4)) rfl T.c_NOT_SO_MUCH ⟨_, rfl⟩) pa_nil))))
      (pss_cons (ps_expr (pe_callF (ok_want T) (hr.mono (by decide)) (passes_call (takes_of rfl rfl rfl rfl) (fun _ _ _ _ h => h)) (pa_cons (pe_callF (ok_is_within T.toTxt) (hr.mono (by decide)) pass0 (pa_cons (pv 2) (pa_cons (pe_methF0 (ok_House_free T.toTxt) (hr.mono (by decide)) pass0 (pe_fld (pv 0) rfl)) pa_nil))) (pa_cons (pe_glob (v := .int (-5)) rfl T.c_NOT_FREE ⟨_, rfl⟩) pa_nil))))
      (pss_cons (ps_fld (pe_fld (pv 0) rfl) (pe_methF (ok_House_with_more T.toTxt) (hr.mono (by decide)) pass0 (pe_fld (pv 0) rfl) (pa_cons (pv 1) (pa_cons (pv 2) pa_nil))) rfl)
      (pss_one (ps_ret (pe_lst (pa_cons (pe_callTy call_int1 rfl T.b_int (by decide +kernel) (pa_cons (pe_methF0 (ok_House_is_safe T.toTxt) (hr.mono (by decide)) pass0 (pe_fld (pv 0) rfl)) pa_nil)) pa_nil)))))))), fun d st x F vs Q sF av hD wf pr k1 k2 => ?_⟩
    obtain ⟨b, l⟩ := x
    obtain ⟨u, ub, ul, rfl, p0, p1, p2⟩ := av.three
    obtain rfl : u = .ref d := p0
    obtain ⟨a, hD⟩ := hD
    have p1 : zBat A b ub F := p1
    have p2 : zL zI l ul F := p2
    have hbm : b ∈ st.batches := pr
    refine q_wl sF ⟨a, hD⟩ wf (ev_var rfl zAt_rfl) (ev_var rfl p2) (fun hv => k1 _ (by show giveO st b l = _; exact vq_none hv)) fun v hv H1 f1 => ?_
    obtain ⟨evv, _, hnn, hvl⟩ := vecIn_some hv
    have pv : zV v ul F := by
      rw [evv]
      exact zN_of hnn p2
    have eo : giveO st b l = (if Vbwbad.mayAsk b v = false then .error (-4) else if Vbwbad.within v (Vbwbad.free st) = false then .error (-5) else .ok (⟨st.totals, giveB st b v, st.next⟩, [Vbwbad.bit (safeB (Vbwbad.free ⟨st.totals, giveB st b v, st.next⟩) (giveB st b v))])) := vq_some hv
    refine q_want f1.fh (b := Vbwbad.mayAsk b v) (n := -4) (ev_meth (P := zBat A b) (b, v) (ins_bat (by decide +kernel)) pr0 rfl (ev_var rfl p1) (ea_cons (ev_var rfl pv) ea_nil)) (ev_c rfl) (fun h => (k1 _ ?_).later f1) fun h H2 f2 => ?_
    · show giveO st b l = _
      rw [eo, if_pos h]
    · have hn1 : ¬ Vbwbad.mayAsk b v = false := by
        rw [h]
        exact fun z => by cases z
      have fu2 := f1.trans f2
      have hD2 := hD.fut fu2
      refine q_want f2.fh (b := Vbwbad.within v (Vbwbad.free st)) (n := -5) (ev_call (v, Vbwbad.free st) pr0 (ea_cons (ev_var rfl pv) (ea_cons (ev_free hD2.2.2 wf (ev_house T hD2 (ev_var rfl zAt_rfl))) ea_nil))) (ev_c rfl) (fun h => (k1 _ ?_).later fu2) fun h2 H3 f3 => ?_
      · show giveO st b l = _
        rw [eo, if_neg hn1, if_pos h]
      · have hn2 : ¬ Vbwbad.within v (Vbwbad.free st) = false := by
          rw [h2]
          exact fun z => by cases z
        have fu3 := fu2.trans f3
        have hD3 := hD.fut fu3
        refine q_setb T.toTxt hD3.2.2 f3.fh (ev_hm (res := fun x : Addr × S × B × Vec => zBs A (giveB x.2.1 x.2.2.1 x.2.2.2)) (b, v) hD3.2.2 wf trivial (by decide +kernel) (ev_house T hD3 (ev_var rfl zAt_rfl)) (ea_cons (ev_var rfl p1) (ea_cons (ev_var rfl pv) ea_nil))) (ev_house T hD3 (ev_var rfl zAt_rfl)) fun H4 F4 u4 hA4 => ?_
        have hD4 := hD3.futB u4 hA4
        have wf4 : WF ⟨st.totals, giveB st b v, st.next⟩ := wf_more wf hbm hvl h2 b.want (.inl rfl)
        refine s_ret u4.fh (ev_bit1 (ev_hm (res := fun x : Addr × S × Unit => zB (safeB (Vbwbad.free x.2.1) x.2.1.batches)) () hA4 wf4 trivial (by decide +kernel) (ev_house T hD4 (ev_var rfl zAt_rfl)) ea_nil)) fun y H5 F5 f5 py => ?_
        refine k2 _ _ ?_ y H5 F5 (((FutD.of fu3).trans (.ofB hD3.2.2 u4)).trans (.of f5)) (DeskAt.fut ⟨a, hD4⟩ f5) py
        show giveO st b l = _
        rw [eo, if_neg hn1, if_neg hn2]
def backO (s : S) (b : B) (l : List Int) : Ans := vq s l fun v => if Vbwbad.within v b.holds = false then .error (-4) else toldA (Vbwbad.reconsidered (Vbwbad.put s ⟨b.id, b.alts, Vbwbad.minus b.holds v, b.want⟩))
def sp_Desk_back (K : PySem.W.Frag) (A : Adr) : Sp := dSp A (α := B × List Int) (fun x => [zBat A x.2.2.1, zL zI x.2.2.2]) (fun x => x.2.2.1 ∈ x.2.1.batches) (fun x => backO x.2.1 x.2.2.1 x.2.2.2)
theorem ok_Desk_back (T : TxD K mg A) : MF P w K mg base (L2.CX P w) 9 A.D "back" ["self", "batch", "row"] (sp_Desk_back K A) :=
  T.f_Desk_back.mf fun f fd Fn => body_okD Fn sc_Desk_back (fun _ => rfl) fun cdv B0 outer s H E hr => by
    refine ⟨_, (pss_cons (ps_expr (pe_methF (ok_Desk_want_list T) (hr.mono (by decide)) (passes_call (takes_of rfl rfl rfl rfl) (fun _ _ _ _ h => h)) (pv 0) (pa_cons (pv 2) pa_nil)))
      (pss_cons (ps_expr (pe_callF (ok_want T) (hr.mono (by decide)) (passes_call (takes_of rfl rfl rfl rfl) (fun _ _ _ _ h => h)) (pa_cons (pe_callF (ok_is_within T.toTxt) (hr.mono (by decide)) pass0 (pa_cons (pv 2) (pa_cons (pe_fld (pv 1) rfl) pa_nil))) (pa_cons (pe_glob (v := .int (-4)) rfl T.c_NOT_SO_MUCH ⟨_, rfl⟩) pa_nil))))
      (pss_cons (ps_fld (pe_fld (pv 0) rfl) (pe_methF (ok_House_with_batch T.toTxt) (hr.mono (by decide)) pass0 (pe_fld (pv 0) rfl) (pa_cons (pe_methF (ok_Batch_holding T.toTxt) (hr.mono (by decide)) pass0 (pv 1) (pa_cons (pe_callF (ok_less T.toTxt) (hr.mono (by decide)) pass0 (pa_cons (pe_fld (pv 1) rfl) (pa_cons (pv 2) pa_nil))) pa_nil)) pa_nil)) rfl)
      (pss_one (ps_ret (pe_methF0 (ok_Desk_looked_again T) (hr.mono (by decide)) pass0 (pv 0))))))), fun d st x F vs Q sF av hD wf pr k1 k2 => ?_⟩
    obtain ⟨b, l⟩ := x
    obtain ⟨u, ub, ul, rfl, p0, p1, p2⟩ := av.three
    obtain rfl : u = .ref d := p0
    obtain ⟨a, hD⟩ := hD
    have p1 : zBat A b ub F := p1
    have p2 : zL zI l ul F := p2
    have hbm : b ∈ st.batches := pr
    refine q_wl sF ⟨a, hD⟩ wf (ev_var rfl zAt_rfl) (ev_var rfl p2) (fun hv => k1 _ (by show backO st b l = _; exact vq_none hv)) fun v hv H1 f1 => ?_
    obtain ⟨evv, _, hnn, hvl⟩ := vecIn_some hv
    have pv : zV v ul F := by
      rw [evv]
      exact zN_of hnn p2
    have eo : backO st b l = (if Vbwbad.within v b.holds = false then .error (-4) else toldA (Vbwbad.reconsidered (Vbwbad.put st ⟨b.id, b.alts, Vbwbad.minus b.holds v, b.want⟩))) := vq_some hv
    have eh : ∀ R, Ev (tFld K (tVar 1) "held") [some (.ref d), some ub, some ul] F R (zV b.holds) := fun R => ev_fld hf_held T.c_B T.n_B_held (ev_var rfl p1)
    refine q_want f1.fh (b := Vbwbad.within v b.holds) (n := -4) (ev_call (v, b.holds) pr0 (ea_cons (ev_var rfl pv) (ea_cons (eh _) ea_nil))) (ev_c rfl) (fun h => (k1 _ ?_).later f1) fun h H2 f2 => ?_
    · show backO st b l = _
      rw [eo, if_pos h]
    · have hn1 : ¬ Vbwbad.within v b.holds = false := by
        rw [h]
        exact fun z => by cases z
      have fu2 := f1.trans f2
      have hD2 := hD.fut fu2
      refine q_setb T.toTxt hD2.2.2 f2.fh (ev_hm (res := fun x : Addr × S × B => zBs A (Vbwbad.put x.2.1 x.2.2).batches) ⟨b.id, b.alts, Vbwbad.minus b.holds v, b.want⟩ hD2.2.2 wf trivial (by decide +kernel) (ev_house T hD2 (ev_var rfl zAt_rfl))
        (ea_cons (ev_meth (P := zBat A b) (b, Vbwbad.minus b.holds v) (ins_bat (by decide +kernel)) pr0 rfl (ev_var rfl p1) (ea_cons (ev_call (b.holds, v) (fun _ _ _ _ _ _ => h) (ea_cons (eh _) (ea_cons (ev_var rfl pv) ea_nil))) ea_nil)) ea_nil)) (ev_house T hD2 (ev_var rfl zAt_rfl)) fun H4 F4 u4 hA4 => ?_
      have hD4 := hD2.futB u4 hA4
      have wf4 : WF (Vbwbad.put st ⟨b.id, b.alts, Vbwbad.minus b.holds v, b.want⟩) := wf_back wf hbm hvl
      refine s_look (s := Vbwbad.put st ⟨b.id, b.alts, Vbwbad.minus b.holds v, b.want⟩) (E := E0) u4.fh ⟨a, hD4⟩ wf4 (ev_var rfl zAt_rfl) fun y H5 F5 f5 d5 py => ?_
      refine k2 _ _ ?_ y H5 F5 (((FutD.of fu2).trans (.ofB hD2.2.2 u4)).trans f5) d5 py
      show backO st b l = _
      rw [eo, if_neg hn1]
      rfl
def endO (s : S) (b : B) : Ans := toldA (Vbwbad.reconsidered ⟨s.totals, wo s.batches b.id, s.next⟩)
def sp_Desk_end (K : PySem.W.Frag) (A : Adr) : Sp := dSp A (α := B) (fun x => [zBat A x.2.2]) (fun _ => True) (fun x => endO x.2.1 x.2.2)
theorem ok_Desk_end (T : TxD K mg A) : MF P w K mg base CX0 9 A.D "end" ["self", "batch"] (sp_Desk_end K A) :=
  T.f_Desk_end.mf fun f fd Fn => body_okD0 Fn sc_Desk_end (fun _ => rfl) fun cdv B0 outer s H E hr => by
    refine ⟨_, (pss_cons (ps_expr (pe_methF (ok_House_remove T.toTxt) (hr.mono (by decide)) pass0 (pe_fld (pv 0) rfl) (pa_cons (pe_fld (pv 1) rfl) pa_nil)))
      (pss_one (ps_ret (pe_methF0 (ok_Desk_looked_again T) (hr.mono (by decide)) pass0 (pv 0))))), fun d st b F vs Q sF av hD wf pr k2 => ?_⟩
    obtain ⟨u, ub, rfl, p0, p1⟩ := av.two
    obtain rfl : u = .ref d := p0
    obtain ⟨a, hD⟩ := hD
    have p1 : zBat A b ub F := p1
    refine qdrop_of (r_hM (args := fun x : Addr × S × Nat => [zN x.2.2]) (pre := fun _ => True) (next := fun x => ⟨x.2.1.totals, wo x.2.1.batches x.2.2, x.2.1.next⟩) (res := fun _ => zNo) (E := E0) b.id sF hD.2.2 wf trivial (by decide +kernel) (ev_house T hD (ev_var rfl zAt_rfl)) (ea_cons (ev_fld hf_number T.c_B T.n_B_number (ev_var rfl p1)) ea_nil) fun y H4 F4 u4 hA4 _ => ?_)
    have hD4 := hD.futB u4 hA4
    exact s_look (s := ⟨st.totals, wo st.batches b.id, st.next⟩) (E := E0) u4.fh ⟨a, hD4⟩ (wf_filter wf _) (ev_var rfl zAt_rfl) fun y H5 F5 f5 d5 py => k2 _ _ rfl y H5 F5 ((FutD.ofB hD.2.2 u4).trans f5) d5 py
def dropO (s : S) (b : B) : Ans := if b.want.isNone = true then .error (-7) else .ok (Vbwbad.put s ⟨b.id, b.alts, b.holds, none⟩, [0])
def sp_Desk_drop (K : PySem.W.Frag) (A : Adr) : Sp := dSp A (α := B) (fun x => [zBat A x.2.2]) (fun _ => True) (fun x => dropO x.2.1 x.2.2)
theorem ok_Desk_drop (T : TxD K mg A) : MF P w K mg base (L2.CX P w) 5 A.D "drop" ["self", "batch"] (sp_Desk_drop K A) :=
  T.f_Desk_drop.mf fun f fd Fn => body_okD Fn sc_Desk_drop (fun _ => rfl) fun cdv B0 outer s H E hr => by
    refine ⟨_, (pss_cons (ps_expr (pe_callF (ok_want T) (hr.mono (by decide)) (passes_call (takes_of rfl rfl rfl rfl) (fun _ _ _ _ h => h)) (pa_cons (pe_cmpR op_notN (pe_fld (pv 1) rfl) pe_non (nomark _)) (pa_cons (pe_glob (v := .int (-7)) rfl T.c_WAITING ⟨_, rfl⟩) pa_nil))))
      (pss_cons (ps_fld (pe_fld (pv 0) rfl) (pe_methF (ok_House_with_batch T.toTxt) (hr.mono (by decide)) pass0 (pe_fld (pv 0) rfl) (pa_cons (pe_methF (ok_Batch_waiting T.toTxt) (hr.mono (by decide)) pass0 (pv 1) (pa_cons pe_non pa_nil)) pa_nil)) rfl)
      (pss_one (ps_ret (pe_lst (pa_cons pe_int pa_nil)))))), fun d st b F vs Q sF av hD wf pr k1 k2 => ?_⟩
    obtain ⟨u, ub, rfl, p0, p1⟩ := av.two
    obtain rfl : u = .ref d := p0
    obtain ⟨a, hD⟩ := hD
    have p1 : zBat A b ub F := p1
    refine q_want sF (b := !b.want.isNone) (n := -7) (ev_notN (b := b.want.isNone) (fun v F' p => zW_none p) (ev_fld hf_request T.c_B T.n_B_request (ev_var rfl p1))) (ev_c rfl) (fun h => k1 _ ?_) fun h H2 f2 => ?_
    · show dropO st b = _
      have : b.want.isNone = true := by simpa using h
      unfold dropO
      rw [if_pos this]
    · have hn : ¬ b.want.isNone = true := by
        intro z
        rw [z] at h
        cases h
      have hD2 := hD.fut f2
      refine q_setb T.toTxt hD2.2.2 f2.fh (ev_hm (res := fun x : Addr × S × B => zBs A (Vbwbad.put x.2.1 x.2.2).batches) ⟨b.id, b.alts, b.holds, none⟩ hD2.2.2 wf trivial (by decide +kernel) (ev_house T hD2 (ev_var rfl zAt_rfl))
        (ea_cons (ev_meth (P := zBat A b) (b, (none : Option (Nat × Vec))) (ins_bat (by decide +kernel)) pr0 rfl (ev_var rfl p1) (ea_cons (P := zWant A none) ev_non ea_nil)) ea_nil)) (ev_house T hD2 (ev_var rfl zAt_rfl)) fun H4 F4 u4 hA4 => ?_
      have hD4 := hD2.futB u4 hA4
      refine s_ret u4.fh (P := zL zI [0]) (ev_lst1 (f := zI) (a := 0) ev_int) fun y H5 F5 f5 py => k2 (Vbwbad.put st ⟨b.id, b.alts, b.holds, none⟩) [0] ?_ y H5 F5 (((FutD.of f2).trans (.ofB hD2.2.2 u4)).trans (.of f5)) (DeskAt.fut ⟨a, hD4⟩ f5) py
      show dropO st b = _
      unfold dropO
      rw [if_neg hn]
section
variable {σ : L2.St} {F H R : Hp} {ta tl : TE} {E : XK} {d : Addr} {s : S} {D : Ends} {tz : TS}
theorem st_wk {j : Int} (sF : Same F H) (hD : DeskAt A d s F H) (wf : WF s) (ha : Ev ta σ F H (zAt d)) (hl : Ev tl σ F H (zI j)) (hr : kindB s j = false → Rf A E F H (-1)) (hk : kindB s j = true → ∀ H1, Fut F F H H1 → D.nx σ H1) :
    tDrop (tMeth A.D "want_kind" (sp_Desk_want_kind K A) [] E ta (tCons tl tNil)) D σ H := by
  refine r_wm (args := fun x : Addr × S × Int => [zI x.2.2]) (pre := fun _ => True) (res := fun _ => zNo) j sF hD wf trivial (by decide +kernel) ha (ea_cons hl ea_nil) (fun n h => ?_) fun h v H2 F' u _ => ?_
  · have h : (if kindB s j = true then none else some (-1 : Int)) = some n := h
    cases e : kindB s j with
    | true =>
      rw [e] at h
      cases h
    | false =>
      rw [e] at h
      cases h
      exact hr e
  · have h : (if kindB s j = true then none else some (-1 : Int)) = none := h
    cases e : kindB s j with
    | true => exact hk e H2 (Fut.grow sF u.hh)
    | false =>
      rw [e] at h
      cases h
theorem q_wk {j : Int} (sF : Same F H) (hD : DeskAt A d s F H) (wf : WF s) (ha : Ev ta σ F H (zAt d)) (hl : Ev tl σ F H (zI j)) (hr : kindB s j = false → Rf A E F H (-1)) (hk : kindB s j = true → ∀ H1, Fut F F H H1 → tz D σ H1) :
    tSeq (tDrop (tMeth A.D "want_kind" (sp_Desk_want_kind K A) [] E ta (tCons tl tNil))) tz D σ H := st_wk (D := { D with nx := tz D }) sF hD wf ha hl hr hk
end
def copO (s : S) (j n : Int) : Ans := if kindB s j = false then .error (-1) else if (decide (1 ≤ n) && decide (n ≤ 1000000000)) = false then .error (-1) else if 1000000000 < s.totals.getD j.toNat 0 + n.toNat then .error (-6) else toldA (Vbwbad.reconsidered (Vbwbad.more s j.toNat n.toNat))
def sp_Desk_add_copies (K : PySem.W.Frag) (A : Adr) : Sp := dSp A (α := Int × Int) (fun x => [zI x.2.2.1, zI x.2.2.2]) (fun _ => True) (fun x => copO x.2.1 x.2.2.1 x.2.2.2)
theorem kind_nat {s : S} {j : Int} (h : kindB s j = true) : ∃ i : Nat, j = (i : Int) ∧ i < s.totals.length := by
  unfold kindB at h
  rw [Bool.and_eq_true, decide_eq_true_eq, decide_eq_true_eq] at h
  exact ⟨j.toNat, by omega, by omega⟩
theorem ok_Desk_add_copies (T : TxD K mg A) : MF P w K mg base (L2.CX P w) 9 A.D "add_copies" ["self", "j", "many"] (sp_Desk_add_copies K A) :=
  T.f_Desk_add_copies.mf fun f fd Fn => body_okD Fn sc_Desk_add_copies (fun _ => rfl) fun cdv B0 outer s H E hr => by
    refine ⟨_, (pss_cons (ps_expr (pe_methF (ok_Desk_want_kind T) (hr.mono (by decide)) (passes_call (takes_of rfl rfl rfl rfl) (fun _ _ _ _ h => h)) (pv 0) (pa_cons (pv 1) pa_nil)))
      (pss_cons (ps_expr (pe_callF (ok_want T) (hr.mono (by decide)) (passes_call (takes_of rfl rfl rfl rfl) (fun _ _ _ _ h => h)) (pa_cons (pe_chain op_le op_le pe_int (pv 2) (pe_glob (v := .int (1000000000)) rfl T.c_MOST_NUMBER ⟨_, rfl⟩)) (pa_cons (pe_glob (v := .int (-1)) rfl T.c_OUT_OF_RANGE ⟨_, rfl⟩) pa_nil))))
      (pss_cons (ps_expr (pe_callF (ok_want T) (hr.mono (by decide)) (passes_call (takes_of rfl rfl rfl rfl) (fun _ _ _ _ h => h)) (pa_cons (pe_cmpR op_le (pe_op op_add (pe_ix ix_list (pe_fld (pe_fld (pv 0) rfl) rfl) (pv 1) (fun _ _ => rfl)) (pv 2)) (pe_glob (v := .int (1000000000)) rfl T.c_MOST_NUMBER ⟨_, rfl⟩) (nomark _)) (pa_cons (pe_glob (v := .int (-6)) rfl T.c_FULL ⟨_, rfl⟩) pa_nil))))
      (pss_cons (ps_fld (pe_fld (pv 0) rfl) (pe_callF (ok_more T.toTxt) (hr.mono (by decide)) pass0 (pa_cons (pe_fld (pe_fld (pv 0) rfl) rfl) (pa_cons (pe_methF (ok_House_copies T.toTxt) (hr.mono (by decide)) pass0 (pe_fld (pv 0) rfl) (pa_cons (pv 1) (pa_cons (pv 2) pa_nil))) pa_nil))) rfl)
      (pss_one (ps_ret (pe_methF0 (ok_Desk_looked_again T) (hr.mono (by decide)) pass0 (pv 0)))))))), fun d st x F vs Q sF av hD wf pr k1 k2 => ?_⟩
    obtain ⟨j, n⟩ := x
    obtain ⟨u, uj, un, rfl, p0, p1, p2⟩ := av.three
    obtain rfl : u = .ref d := p0
    obtain ⟨a, hD⟩ := hD
    refine q_wk sF ⟨a, hD⟩ wf (ev_var rfl zAt_rfl) (ev_var rfl p1) (fun h => k1 _ ?_) fun h H1 f1 => ?_
    · show copO st j n = _
      unfold copO
      rw [if_pos h]
    · have hn1 : ¬ kindB st j = false := by
        rw [h]
        exact fun z => by cases z
      obtain ⟨i, rfl, hi⟩ := kind_nat h
      refine q_want f1.fh (b := decide (1 ≤ n) && decide (n ≤ 1000000000)) (n := -1) (ev_chain (g := fun i j => decide (i ≤ j)) (g' := fun i j => decide (i ≤ j)) ev_int (ev_var rfl p2) (ev_c rfl)) (ev_c rfl) (fun h => (k1 _ ?_).later f1) fun h2 H2 f2 => ?_
      · show copO st i n = _
        unfold copO
        rw [if_neg hn1, if_pos h]
      · have hn2 : ¬ (decide (1 ≤ n) && decide (n ≤ 1000000000)) = false := by
          rw [h2]
          exact fun z => by cases z
        obtain ⟨m, rfl⟩ : ∃ m : Nat, n = (m : Int) := by
          rw [Bool.and_eq_true, decide_eq_true_eq, decide_eq_true_eq] at h2
          exact ⟨n.toNat, by omega⟩
        have fu2 := f1.trans f2
        have hD2 := hD.fut fu2
        have et := ev_tot (σ := [some (.ref d), some uj, some un]) T.toTxt hD2.2.2 (ev_house T hD2 (ev_var (i := 0) rfl zAt_rfl))
        have eg : st.totals[i]? = some (st.totals.getD i 0) := by
          rw [List.getD_eq_getElem?_getD, List.getElem?_eq_getElem hi]
          rfl
        refine q_want f2.fh (b := decide (st.totals.getD i 0 + m ≤ 1000000000)) (n := -6) (Ev.bl (decide_eq_decide.mpr (by omega)) (ev_le (i := ((st.totals.getD i 0 : Nat) : Int) + (m : Int)) (j := 1000000000) (ev_add (ev_ix (f := zN) eg rfl et (ev_var rfl p1)) (ev_var rfl p2)) (ev_c rfl))) (ev_c rfl) (fun h => (k1 _ ?_).later fu2) fun h3 H3 f3 => ?_
        · have := of_decide_eq_false h
          show copO st i m = _
          unfold copO
          rw [if_neg hn1, if_neg hn2, if_pos (by rw [Int.toNat_natCast, Int.toNat_natCast]; omega)]
        · have h3 := of_decide_eq_true h3
          have fu3 := fu2.trans f3
          have hD3 := hD.fut fu3
          refine q_sett T.toTxt hD3.2.2 f3.fh (t := Vbwbad.plus st.totals (Vbwbad.unit st i m)) (ev_call (st.totals, Vbwbad.unit st i m) pr0 (ea_cons (ev_tot T.toTxt hD3.2.2 (ev_house T hD3 (ev_var rfl zAt_rfl))) (ea_cons (ev_hm (res := fun x : Addr × S × Nat × Nat => zV (Vbwbad.unit x.2.1 x.2.2.1 x.2.2.2)) (i, m) hD3.2.2 wf trivial (by decide +kernel) (ev_house T hD3 (ev_var rfl zAt_rfl)) (ea_cons (ev_var rfl p1) (ea_cons (ev_var rfl p2) ea_nil))) ea_nil))) (ev_house T hD3 (ev_var rfl zAt_rfl)) fun H4 F4 u4 hA4 => ?_
          have hD4 := hD3.futB u4 hA4
          refine s_look (s := Vbwbad.more st i m) (E := E0) u4.fh ⟨a, hD4⟩ (wf_copies wf hi h3) (ev_var rfl zAt_rfl) fun y H5 F5 f5 d5 py => k2 _ _ ?_ y H5 F5 (((FutD.of fu3).trans (.ofB hD3.2.2 u4)).trans f5) d5 py
          show copO st i m = _
          unfold copO
          rw [if_neg hn1, if_neg hn2, if_neg (by rw [Int.toNat_natCast, Int.toNat_natCast]; omega), Int.toNat_natCast, Int.toNat_natCast]
          rfl
end
end G
end

section
set_option Elab.async false
set_option linter.all false
set_option maxRecDepth 100000
set_option maxHeartbeats 4000000
namespace G
open PySem PySem.Spec PyProof.Rows L2
section
variable {P : Program} {w : World} {K : PySem.W.Frag} {mg : Str → Option Value} {base : Heap} {A : Adr}
def safeO (s : S) : Ans := .ok (s, if (endAll (Vbwbad.free s) s.batches).2.isEmpty = true then 1 :: Vbwbad.listed (Vbwbad.ids (endAll (Vbwbad.free s) s.batches).1) else 0 :: Vbwbad.listed (Vbwbad.ids (endAll (Vbwbad.free s) s.batches).2))
def sp_Desk_safe (K : PySem.W.Frag) (A : Adr) : Sp := dSp A (α := Unit) (fun _ => []) (fun _ => True) (fun x => safeO x.2.1)
theorem ids_len (l : List B) : (Vbwbad.ids l).length = l.length := List.length_map ..
theorem ok_Desk_safe (T : TxD K mg A) : MF P w K mg base CX0 5 A.D "safe" ["self"] (sp_Desk_safe K A) :=
  T.f_Desk_safe.mf fun f fd Fn => body_okD0 Fn sc_Desk_safe (fun _ => rfl) fun cdv B0 outer s H E hr => by
    refine ⟨_, (pss_cons (ps_asg (pe_callF (ok_ended T.toTxt) (hr.mono (by decide)) pass0 (pa_cons (pe_fld (pe_fld (pv 0) rfl) rfl) (pa_cons (pe_methF0 (ok_House_free T.toTxt) (hr.mono (by decide)) pass0 (pe_fld (pv 0) rfl)) pa_nil))) (pg_tup rfl (pgs_cons (pg_name (i := 1) sc_Desk_safe.nd rfl (Or.inl rfl)) (pgs_cons (pg_name (i := 2) sc_Desk_safe.nd rfl (Or.inl rfl)) pgs_nil))))
      (pss_cons (ps_if (pt_cmpR (op_eqNil hr.units) (pv 2) (pe_lst pa_nil) (nomark _))
      (pss_one (ps_ret (pe_op op_cat (pe_lst (pa_cons pe_int pa_nil)) (pe_callF (ok_listed T) (hr.mono (by decide)) pass0 (pa_cons (pe_callF (ok_numbers_of T.toTxt) (hr.mono (by decide)) pass0 (pa_cons (pv 1) pa_nil)) pa_nil)))))
      pss_nil)
      (pss_one (ps_ret (pe_op op_cat (pe_lst (pa_cons pe_int pa_nil)) (pe_callF (ok_listed T) (hr.mono (by decide)) pass0 (pa_cons (pe_callF (ok_numbers_of T.toTxt) (hr.mono (by decide)) pass0 (pa_cons (pv 2) pa_nil)) pa_nil))))))), fun d st x F vs Q sF av hD wf pr k2 => ?_⟩
    obtain ⟨u, rfl, p0⟩ := av.one
    obtain rfl : u = .ref d := p0
    obtain ⟨a, hD⟩ := hD
    have hlen := end_len (Vbwbad.free st) st.batches
    have hfew := wf.few
    refine q_asg2 (P1 := zBs A (endAll (Vbwbad.free st) st.batches).1) (P2 := zBs A (endAll (Vbwbad.free st) st.batches).2) sF (ev_call (st.batches, Vbwbad.free st) pr0 (ea_cons (ev_bts T.toTxt hD.2.2 (ev_house T hD (ev_var rfl zAt_rfl))) (ea_cons (ev_free hD.2.2 wf (ev_house T hD (ev_var rfl zAt_rfl))) ea_nil))) fun v1 v2 H1 F1 f1 p1 p2 => ?_
    refine q_when f1.fh (et_test (ev_eqNil (neg := false) (g := zBat A) (ev_var rfl p2) ev_nil)) (fun hc H2 f2 => ?_) fun hc H2 f2 => ?_
    · have hc : (endAll (Vbwbad.free st) st.batches).2.isEmpty = true := hc
      refine s_ret f2.fh (ev_toldL (E := E0) (l := Vbwbad.ids (endAll (Vbwbad.free st) st.batches).1) (n := 1) (by rw [ids_len]; omega) ev_int (ev_call (endAll (Vbwbad.free st) st.batches).1 pr0 (ea_cons (ev_var rfl p1) ea_nil))) fun v H3 F3 f3 pv => k2 st _ ?_ v H3 F3 (.of ((f1.trans f2).trans f3)) (DeskAt.fut ⟨a, hD⟩ ((f1.trans f2).trans f3)) pv
      show safeO st = _
      unfold safeO
      rw [if_pos hc]
    · have hc : ¬ (endAll (Vbwbad.free st) st.batches).2.isEmpty = true := fun z => by
        have hc : (endAll (Vbwbad.free st) st.batches).2.isEmpty = false := hc
        rw [z] at hc
        cases hc
      refine s_ret f2.fh (ev_toldL (E := E0) (l := Vbwbad.ids (endAll (Vbwbad.free st) st.batches).2) (n := 0) (by rw [ids_len]; omega) ev_int (ev_call (endAll (Vbwbad.free st) st.batches).2 pr0 (ea_cons (ev_var rfl p2) ea_nil))) fun v H3 F3 f3 pv => k2 st _ ?_ v H3 F3 (.of ((f1.trans f2).trans f3)) (DeskAt.fut ⟨a, hD⟩ ((f1.trans f2).trans f3)) pv
      show safeO st = _
      unfold safeO
      rw [if_neg hc]
def stuckL (s : S) (b : B) (v : Vec) : List B := (endAll (Vbwbad.minus (Vbwbad.free s) v) (giveB s b v)).2
def couldO (s : S) (b : B) (l : List Int) : Ans := vq s l fun v => .ok (s, if Vbwbad.mayAsk b v = false then [1] else if Vbwbad.within v (Vbwbad.free s) = false then [2] else if (stuckL s b v).isEmpty = true then [0] else 3 :: Vbwbad.listed (Vbwbad.ids (stuckL s b v)))
def sp_Desk_could (K : PySem.W.Frag) (A : Adr) : Sp := dSp A (α := B × List Int) (fun x => [zBat A x.2.2.1, zL zI x.2.2.2]) (fun _ => True) (fun x => couldO x.2.1 x.2.2.1 x.2.2.2)
theorem ok_Desk_could (T : TxD K mg A) : MF P w K mg base (L2.CX P w) 6 A.D "could" ["self", "batch", "row"] (sp_Desk_could K A) :=
  T.f_Desk_could.mf fun f fd Fn => body_okD Fn sc_Desk_could (fun _ => rfl) fun cdv B0 outer s H E hr => by
    refine ⟨_, (pss_cons (ps_expr (pe_methF (ok_Desk_want_list T) (hr.mono (by decide)) (passes_call (takes_of rfl rfl rfl rfl) (fun _ _ _ _ h => h)) (pv 0) (pa_cons (pv 2) pa_nil)))
      (pss_cons (ps_if (pt_not (pt_val (pe_methF (ok_Batch_may_get T.toTxt) (hr.mono (by decide)) pass0 (pv 1) (pa_cons (pv 2) pa_nil))))
      (pss_one (ps_ret (pe_lst (pa_cons pe_int pa_nil))))
      pss_nil)
      (pss_cons (ps_if (pt_not (pt_val (pe_callF (ok_is_within T.toTxt) (hr.mono (by decide)) pass0 (pa_cons (pv 2) (pa_cons (pe_methF0 (ok_House_free T.toTxt) (hr.mono (by decide)) pass0 (pe_fld (pv 0) rfl)) pa_nil)))))
      (pss_one (ps_ret (pe_lst (pa_cons pe_int pa_nil))))
      pss_nil)
      (pss_cons (ps_set (i := 3) sc_Desk_could.nd rfl (Or.inl rfl) (pe_methF (ok_House_stuck_with T.toTxt) (hr.mono (by decide)) pass0 (pe_fld (pv 0) rfl) (pa_cons (pv 1) (pa_cons (pv 2) pa_nil))))
      (pss_cons (ps_if (pt_cmpR (op_eqNil hr.units) (pv 3) (pe_lst pa_nil) (nomark _))
      (pss_one (ps_ret (pe_lst (pa_cons pe_int pa_nil))))
      pss_nil)
      (pss_one (ps_ret (pe_op op_cat (pe_lst (pa_cons pe_int pa_nil)) (pe_callF (ok_listed T) (hr.mono (by decide)) pass0 (pa_cons (pe_callF (ok_numbers_of T.toTxt) (hr.mono (by decide)) pass0 (pa_cons (pv 3) pa_nil)) pa_nil)))))))))), fun d st x F vs Q sF av hD wf pr k1 k2 => ?_⟩
    obtain ⟨b, l⟩ := x
    obtain ⟨u, ub, ul, rfl, p0, p1, p2⟩ := av.three
    obtain rfl : u = .ref d := p0
    obtain ⟨a, hD⟩ := hD
    have p1 : zBat A b ub F := p1
    have p2 : zL zI l ul F := p2
    refine q_wl sF ⟨a, hD⟩ wf (ev_var rfl zAt_rfl) (ev_var rfl p2) (fun hv => k1 _ (by show couldO st b l = _; exact vq_none hv)) fun v hv H1 f1 => ?_
    obtain ⟨evv, _, hnn, hvl⟩ := vecIn_some hv
    have pv : zV v ul F := by
      rw [evv]
      exact zN_of hnn p2
    have eo : couldO st b l = .ok (st, if Vbwbad.mayAsk b v = false then [1] else if Vbwbad.within v (Vbwbad.free st) = false then [2] else if (stuckL st b v).isEmpty = true then [0] else 3 :: Vbwbad.listed (Vbwbad.ids (stuckL st b v))) := vq_some hv
    have fin : ∀ {L : List Int} {F' H' : Hp}, Fut F F' H H' → (couldO st b l = .ok (st, L)) → ∀ v H3 F3, Fut F' F3 H' H3 → zL zI L v F3 → Q v H3 := fun fu e v H3 F3 f3 pv => k2 st _ e v H3 F3 (.of (fu.trans f3)) (DeskAt.fut ⟨a, hD⟩ (fu.trans f3)) pv
    refine q_when f1.fh (et_not (et_B (ev_meth (P := zBat A b) (b, v) (ins_bat (by decide +kernel)) pr0 rfl (ev_var rfl p1) (ea_cons (ev_var rfl pv) ea_nil)))) (fun hc H2 f2 => ?_) fun hc H2 f2 => ?_
    · have hc : Vbwbad.mayAsk b v = false := by simpa using hc
      exact s_ret f2.fh (P := zL zI [1]) (ev_lst1 (f := zI) (a := 1) ev_int) (fin (f1.trans f2) (by rw [eo, if_pos hc]))
    · have hn1 : ¬ Vbwbad.mayAsk b v = false := by
        have : Vbwbad.mayAsk b v = true := by simpa using hc
        rw [this]
        exact fun z => by cases z
      have fu2 := f1.trans f2
      have hD2 := hD.fut fu2
      refine q_when f2.fh (et_not (et_B (ev_call (v, Vbwbad.free st) pr0 (ea_cons (ev_var rfl pv) (ea_cons (ev_free hD2.2.2 wf (ev_house T hD2 (ev_var rfl zAt_rfl))) ea_nil))))) (fun hc H3 f3 => ?_) fun hc H3 f3 => ?_
      · have hc : Vbwbad.within v (Vbwbad.free st) = false := by simpa using hc
        exact s_ret f3.fh (P := zL zI [2]) (ev_lst1 (f := zI) (a := 2) ev_int) (fin (fu2.trans f3) (by rw [eo, if_neg hn1, if_pos hc]))
      · have hw : Vbwbad.within v (Vbwbad.free st) = true := by simpa using hc
        have hn2 : ¬ Vbwbad.within v (Vbwbad.free st) = false := by
          rw [hw]
          exact fun z => by cases z
        have fu3 := fu2.trans f3
        have hD3 := hD.fut fu3
        refine q_asg f3.fh (ev_hm (pre := fun x : Addr × S × B × Vec => Vbwbad.within x.2.2.2 (Vbwbad.free x.2.1) = true) (res := fun x : Addr × S × B × Vec => zBs A (endAll (Vbwbad.minus (Vbwbad.free x.2.1) x.2.2.2) (giveB x.2.1 x.2.2.1 x.2.2.2)).2) (b, v) hD3.2.2 wf hw (by decide +kernel) (ev_house T hD3 (ev_var rfl zAt_rfl)) (ea_cons (ev_var rfl p1) (ea_cons (ev_var rfl pv) ea_nil))) fun u5 H5 F5 f5 p5 => ?_
        have p5 : zBs A (stuckL st b v) u5 F5 := p5
        have fu5 := fu3.trans f5
        have hsl : (stuckL st b v).length ≤ 10 := by
          have := end_len (Vbwbad.minus (Vbwbad.free st) v) (giveB st b v)
          have e : (giveB st b v).length = st.batches.length := List.length_map ..
          have := wf.few
          unfold stuckL
          omega
        refine q_when f5.fh (et_test (ev_eqNil (neg := false) (g := zBat A) (ev_var rfl p5) ev_nil)) (fun hc H6 f6 => ?_) fun hc H6 f6 => ?_
        · have hc : (stuckL st b v).isEmpty = true := hc
          exact s_ret f6.fh (P := zL zI [0]) (ev_lst1 (f := zI) (a := 0) ev_int) (fin (fu5.trans f6) (by rw [eo, if_neg hn1, if_neg hn2, if_pos hc]))
        · have hn3 : ¬ (stuckL st b v).isEmpty = true := fun z => by
            have hc : (stuckL st b v).isEmpty = false := hc
            rw [z] at hc
            cases hc
          exact s_ret f6.fh (ev_toldL (E := E0) (l := Vbwbad.ids (stuckL st b v)) (n := 3) (by rw [ids_len]; omega) ev_int (ev_call (stuckL st b v) pr0 (ea_cons (ev_var rfl p5) ea_nil))) (fin (fu5.trans f6) (by rw [eo, if_neg hn1, if_neg hn2, if_neg hn3]))
def roomO (s : S) (b : B) (j : Nat) : Ans := if safeB (Vbwbad.free s) s.batches = false then .error (-8) else .ok (s, [((roomP s b j : Nat) : Int)])
def sp_Desk_room (K : PySem.W.Frag) (A : Adr) : Sp := dSp A (α := B × Nat) (fun x => [zBat A x.2.2.1, zN x.2.2.2]) (fun x => x.2.2.2 < x.2.1.totals.length) (fun x => roomO x.2.1 x.2.2.1 x.2.2.2)
theorem ok_Desk_room (T : TxD K mg A) : MF P w K mg base (L2.CX P w) 8 A.D "room" ["self", "batch", "j"] (sp_Desk_room K A) :=
  T.f_Desk_room.mf fun f fd Fn => body_okD Fn sc_Desk_room (fun _ => rfl) fun cdv B0 outer s H E hr => by
    refine ⟨_, (pss_cons (ps_expr (pe_callF (ok_want T) (hr.mono (by decide)) (passes_call (takes_of rfl rfl rfl rfl) (fun _ _ _ _ h => h)) (pa_cons (pe_methF0 (ok_House_is_safe T.toTxt) (hr.mono (by decide)) pass0 (pe_fld (pv 0) rfl)) (pa_cons (pe_glob (v := .int (-8)) rfl T.c_NOT_SAFE ⟨_, rfl⟩) pa_nil))))
      (pss_one (ps_ret (pe_lst (pa_cons (pe_methF (ok_House_room T.toTxt) (hr.mono (by decide)) pass0 (pe_fld (pv 0) rfl) (pa_cons (pv 1) (pa_cons (pv 2) pa_nil))) pa_nil))))), fun d st x F vs Q sF av hD wf pr k1 k2 => ?_⟩
    obtain ⟨b, j⟩ := x
    obtain ⟨u, ub, uj, rfl, p0, p1, p2⟩ := av.three
    obtain rfl : u = .ref d := p0
    obtain ⟨a, hD⟩ := hD
    refine q_want sF (b := safeB (Vbwbad.free st) st.batches) (n := -8) (ev_hm (res := fun x : Addr × S × Unit => zB (safeB (Vbwbad.free x.2.1) x.2.1.batches)) () hD.2.2 wf trivial (by decide +kernel) (ev_house T hD (ev_var rfl zAt_rfl)) ea_nil) (ev_c rfl) (fun h => k1 _ ?_) fun h H2 f2 => ?_
    · show roomO st b j = _
      unfold roomO
      rw [if_pos h]
    · have hD2 := hD.fut f2
      refine s_ret f2.fh (P := zL zI [((roomP st b j : Nat) : Int)]) (ev_lst1 (f := zI) (ev_hm (pre := fun x : Addr × S × B × Nat => x.2.2.2 < x.2.1.totals.length) (res := fun x : Addr × S × B × Nat => zN (roomP x.2.1 x.2.2.1 x.2.2.2)) (b, j) hD2.2.2 wf pr (by decide +kernel) (ev_house T hD2 (ev_var rfl zAt_rfl)) (ea_cons (ev_var rfl p1) (ea_cons (ev_var rfl p2) ea_nil)))) fun v H3 F3 f3 pv => k2 st _ ?_ v H3 F3 (.of (f2.trans f3)) (DeskAt.fut ⟨a, hD⟩ (f2.trans f3)) pv
      show roomO st b j = _
      unfold roomO
      rw [if_neg]
      rw [h]
      exact fun z => by cases z
def onL (o : Option Nat) (l : List Int) : List Int := match o with
  | none => l
  | some n => [1, (n : Int)]
theorem zON_isNo {o : Option Nat} {v : V} {F : Hp} (p : zON o v F) : decide (v = .non) = o.isNone := by
  cases o with
  | none =>
    have p : v = .non := p
    subst p
    rfl
  | some n =>
    have p : v = .int (n : Nat) := p
    subst p
    rfl
def lackO (s : S) (j : Int) : Ans := if kindB s j = false then .error (-1) else .ok (s, onL (lackP s j.toNat) [0])
def sp_Desk_lack (K : PySem.W.Frag) (A : Adr) : Sp := dSp A (α := Int) (fun x => [zI x.2.2]) (fun _ => True) (fun x => lackO x.2.1 x.2.2)
theorem ok_Desk_lack (T : TxD K mg A) : MF P w K mg base (L2.CX P w) 8 A.D "lack" ["self", "j"] (sp_Desk_lack K A) :=
  T.f_Desk_lack.mf fun f fd Fn => body_okD Fn sc_Desk_lack (fun _ => rfl) fun cdv B0 outer s H E hr => by
    refine ⟨_, (pss_cons (ps_expr (pe_methF (ok_Desk_want_kind T) (hr.mono (by decide)) (passes_call (takes_of rfl rfl rfl rfl) (fun _ _ _ _ h => h)) (pv 0) (pa_cons (pv 1) pa_nil)))
      (pss_cons (ps_set (i := 2) sc_Desk_lack.nd rfl (Or.inl rfl) (pe_methF (ok_House_lack T.toTxt) (hr.mono (by decide)) pass0 (pe_fld (pv 0) rfl) (pa_cons (pv 1) pa_nil)))
      (pss_cons (ps_if (pt_cmpR op_isN (pv 2) pe_non (nomark _))
      (pss_one (ps_ret (pe_lst (pa_cons pe_int pa_nil))))
      pss_nil)
      (pss_one (ps_ret (pe_lst (pa_cons pe_int (pa_cons (pv 2) pa_nil)))))))), fun d st j F vs Q sF av hD wf pr k1 k2 => ?_⟩
    obtain ⟨u, uj, rfl, p0, p1⟩ := av.two
    obtain rfl : u = .ref d := p0
    obtain ⟨a, hD⟩ := hD
    refine q_wk sF ⟨a, hD⟩ wf (ev_var rfl zAt_rfl) (ev_var rfl p1) (fun h => k1 _ ?_) fun h H1 f1 => ?_
    · show lackO st j = _
      unfold lackO
      rw [if_pos h]
    · have hn1 : ¬ kindB st j = false := by
        rw [h]
        exact fun z => by cases z
      obtain ⟨i, rfl, hi⟩ := kind_nat h
      have hD1 := hD.fut f1
      refine q_asg f1.fh (ev_hm (res := fun x : Addr × S × Nat => zON (lackP x.2.1 x.2.2)) i hD1.2.2 wf trivial (by decide +kernel) (ev_house T hD1 (ev_var rfl zAt_rfl)) (ea_cons (ev_var rfl p1) ea_nil)) fun u2 H2 F2 f2 p2 => ?_
      have p2 : zON (lackP st i) u2 F2 := p2
      have fu2 := f1.trans f2
      have fin : ∀ {L : List Int} {F' H' : Hp}, Fut F F' H H' → onL (lackP st i) [0] = L → ∀ v H3 F3, Fut F' F3 H' H3 → zL zI L v F3 → Q v H3 := fun fu e v H3 F3 f3 pv => k2 st _ (by show lackO st i = _; unfold lackO; rw [if_neg hn1, Int.toNat_natCast, e]) v H3 F3 (.of (fu.trans f3)) (DeskAt.fut ⟨a, hD⟩ (fu.trans f3)) pv
      refine q_when f2.fh (et_test (ev_isN (b := (lackP st i).isNone) (fun v F' p => zON_isNo p) (ev_var rfl p2))) (fun hc H3 f3 => ?_) fun hc H3 f3 => ?_
      · refine s_ret f3.fh (P := zL zI [0]) (ev_lst1 (f := zI) (a := 0) ev_int) (fin (fu2.trans f3) ?_)
        cases e : lackP st i with
        | none => rfl
        | some n =>
          rw [e] at hc
          cases hc
      · cases e : lackP st i with
        | none =>
          rw [e] at hc
          cases hc
        | some n =>
          rw [e] at p2
          have p2 : u2 = .int (n : Nat) := p2
          subst p2
          exact s_ret f3.fh (P := zL zI [1, (n : Int)]) (ev_lst2 (f := zI) ev_int (ev_var rfl rfl)) (fin (fu2.trans f3) (by rw [e]; rfl))
section
variable {σ : L2.St} {F H R : Hp} {ta tl : TE} {E : XK} {d : Addr} {s : S} {D : Ends} {tz : TS}
theorem q_wb {l : List Int} (sF : Same F H) (hD : DeskAt A d s F H) (wf : WF s) (hl : l.length ≤ 4000) (ha : Ev ta σ F H (zAt d)) (ht : Ev tl σ F H (zL zI l)) (hr : thereB s l = false → Rf A E F H (-2)) (hk : thereB s l = true → ∀ H1, Fut F F H H1 → tz D σ H1) :
    tSeq (tDrop (tMeth A.D "want_batches" (sp_Desk_want_batches K A) [] E ta (tCons tl tNil))) tz D σ H := by
  refine r_wm (args := fun x : Addr × S × List Int => [zL zI x.2.2]) (pre := fun x => x.2.2.length ≤ 4000) (res := fun _ => zNo) l sF hD wf hl (by decide +kernel) ha (ea_cons ht ea_nil) (fun n h => ?_) fun h v H2 F' u _ => ?_
  · have h : (if thereB s l = true then none else some (-2 : Int)) = some n := h
    cases e : thereB s l with
    | true =>
      rw [e] at h
      cases h
    | false =>
      rw [e] at h
      cases h
      exact hr e
  · have h : (if thereB s l = true then none else some (-2 : Int)) = none := h
    cases e : thereB s l with
    | true => exact hk e H2 (Fut.grow sF u.hh)
    | false =>
      rw [e] at h
      cases h
end
theorem there_is {s : S} {l : List Int} (h : thereB s l = true) : (∀ x ∈ l, 0 ≤ x) ∧ There s (l.map Int.toNat) ∧ (∀ i ∈ l.map Int.toNat, i ∈ Vbwbad.ids s.batches) := by
  unfold thereB at h
  rw [Bool.and_eq_true, List.all_eq_true] at h
  have hk : ∀ x ∈ l, ∃ n ∈ Vbwbad.ids s.batches, (n : Int) = x := fun x hx => by
    obtain ⟨n, hn, e⟩ := List.mem_map.mp (of_decide_eq_true (h.1 x hx))
    exact ⟨n, hn, e⟩
  have hi : ∀ i ∈ l.map Int.toNat, i ∈ Vbwbad.ids s.batches := fun i hi => by
    obtain ⟨x, hx, rfl⟩ := List.mem_map.mp hi
    obtain ⟨n, hn, rfl⟩ := hk x hx
    exact hn
  refine ⟨fun x hx => ?_, fun i hi' => ?_, hi⟩
  · obtain ⟨n, _, rfl⟩ := hk x hx
    exact Int.natCast_nonneg n
  · obtain ⟨b, hb, e⟩ := List.mem_map.mp (hi i hi')
    unfold Vbwbad.batchOf
    cases q : s.batches.find? (fun b => b.id == i) with
    | some c => exact ⟨c, rfl⟩
    | none =>
      have := List.find?_eq_none.mp q b hb
      exact absurd (beq_iff_eq.mpr e) this
def checkO (s : S) (l : List Int) : Ans := if thereB s l = false then .error (-2) else .ok (s, onL (canNot s (Vbwbad.free s) (l.map Int.toNat)) [0, (l.length : Int)])
def sp_Desk_check (K : PySem.W.Frag) (A : Adr) : Sp := dSp A (α := List Int) (fun x => [zL zI x.2.2]) (fun x => x.2.2.length ≤ 4000) (fun x => checkO x.2.1 x.2.2)
theorem ok_Desk_check (T : TxD K mg A) : MF P w K mg base (L2.CX P w) 6 A.D "check" ["self", "row"] (sp_Desk_check K A) :=
  T.f_Desk_check.mf fun f fd Fn => body_okD Fn sc_Desk_check (fun _ => rfl) fun cdv B0 outer s H E hr => by
    refine ⟨_, (pss_cons (ps_expr (pe_methF (ok_Desk_want_batches T) (hr.mono (by decide)) (passes_call (takes_of rfl rfl rfl rfl) (fun _ _ _ _ h => h)) (pv 0) (pa_cons (pv 1) pa_nil)))
      (pss_cons (ps_set (i := 2) sc_Desk_check.nd rfl (Or.inl rfl) (pe_methF (ok_House_first_that_cannot T.toTxt) (hr.mono (by decide)) pass0 (pe_fld (pv 0) rfl) (pa_cons (pv 1) pa_nil)))
      (pss_cons (ps_if (pt_cmpR op_isN (pv 2) pe_non (nomark _))
      (pss_one (ps_ret (pe_lst (pa_cons pe_int (pa_cons (pe_callB call_len_seq rfl T.b_len (by decide +kernel) (pa_cons (pv 1) pa_nil)) pa_nil)))))
      pss_nil)
      (pss_one (ps_ret (pe_lst (pa_cons pe_int (pa_cons (pv 2) pa_nil)))))))), fun d st l F vs Q sF av hD wf pr k1 k2 => ?_⟩
    obtain ⟨u, ul, rfl, p0, p1⟩ := av.two
    obtain rfl : u = .ref d := p0
    obtain ⟨a, hD⟩ := hD
    have p1 : zL zI l ul F := p1
    refine q_wb sF ⟨a, hD⟩ wf pr (ev_var rfl zAt_rfl) (ev_var rfl p1) (fun h => k1 _ ?_) fun h H1 f1 => ?_
    · show checkO st l = _
      unfold checkO
      rw [if_pos h]
    · have hn1 : ¬ thereB st l = false := by
        rw [h]
        exact fun z => by cases z
      obtain ⟨hnn, hth, _⟩ := there_is h
      have hD1 := hD.fut f1
      refine q_asg f1.fh (ev_hm (pre := fun x : Addr × S × List Nat => There x.2.1 x.2.2) (res := fun x : Addr × S × List Nat => zON (canNot x.2.1 (Vbwbad.free x.2.1) x.2.2)) (l.map Int.toNat) hD1.2.2 wf hth (by decide +kernel) (ev_house T hD1 (ev_var rfl zAt_rfl)) (ea_cons (ev_var rfl (zN_of hnn p1)) ea_nil)) fun u2 H2 F2 f2 p2 => ?_
      have p2 : zON (canNot st (Vbwbad.free st) (l.map Int.toNat)) u2 F2 := p2
      have fu2 := f1.trans f2
      have fin : ∀ {L : List Int} {F' H' : Hp}, Fut F F' H H' → onL (canNot st (Vbwbad.free st) (l.map Int.toNat)) [0, (l.length : Int)] = L → ∀ v H3 F3, Fut F' F3 H' H3 → zL zI L v F3 → Q v H3 := fun fu e v H3 F3 f3 pv => k2 st _ (by show checkO st l = _; unfold checkO; rw [if_neg hn1, e]) v H3 F3 (.of (fu.trans f3)) (DeskAt.fut ⟨a, hD⟩ (fu.trans f3)) pv
      refine q_when f2.fh (et_test (ev_isN (b := (canNot st (Vbwbad.free st) (l.map Int.toNat)).isNone) (fun v F' p => zON_isNo p) (ev_var rfl p2))) (fun hc H3 f3 => ?_) fun hc H3 f3 => ?_
      · refine s_ret f3.fh (P := zL zI [0, (l.length : Int)]) (ev_lst2 (f := zI) ev_int (ev_len (ea_cons (ev_var rfl (up f2.ff p1)) ea_nil))) (fin (fu2.trans f3) ?_)
        cases e : canNot st (Vbwbad.free st) (l.map Int.toNat) with
        | none => rfl
        | some n =>
          rw [e] at hc
          cases hc
      · cases e : canNot st (Vbwbad.free st) (l.map Int.toNat) with
        | none =>
          rw [e] at hc
          cases hc
        | some n =>
          rw [e] at p2
          have p2 : u2 = .int (n : Nat) := p2
          subst p2
          exact s_ret f3.fh (P := zL zI [1, (n : Int)]) (ev_lst2 (f := zI) ev_int (ev_var rfl rfl)) (fin (fu2.trans f3) (by rw [e]; rfl))
def blockO (s : S) (l : List Int) : Ans := if thereB s l = false then .error (-2) else .ok (s, [Vbwbad.bit (blockP s (l.map Int.toNat))])
def sp_Desk_blocks (K : PySem.W.Frag) (A : Adr) : Sp := dSp A (α := List Int) (fun x => [zL zI x.2.2]) (fun x => x.2.2.length ≤ 4000) (fun x => blockO x.2.1 x.2.2)
theorem ok_Desk_blocks (T : TxD K mg A) : MF P w K mg base (L2.CX P w) 6 A.D "blocks" ["self", "row"] (sp_Desk_blocks K A) :=
  T.f_Desk_blocks.mf fun f fd Fn => body_okD Fn sc_Desk_blocks (fun _ => rfl) fun cdv B0 outer s H E hr => by
    refine ⟨_, (pss_cons (ps_expr (pe_methF (ok_Desk_want_batches T) (hr.mono (by decide)) (passes_call (takes_of rfl rfl rfl rfl) (fun _ _ _ _ h => h)) (pv 0) (pa_cons (pv 1) pa_nil)))
      (pss_one (ps_ret (pe_lst (pa_cons (pe_callTy call_int1 rfl T.b_int (by decide +kernel) (pa_cons (pe_methF (ok_House_do_block T.toTxt) (hr.mono (by decide)) pass0 (pe_fld (pv 0) rfl) (pa_cons (pv 1) pa_nil)) pa_nil)) pa_nil))))), fun d st l F vs Q sF av hD wf pr k1 k2 => ?_⟩
    obtain ⟨u, ul, rfl, p0, p1⟩ := av.two
    obtain rfl : u = .ref d := p0
    obtain ⟨a, hD⟩ := hD
    have p1 : zL zI l ul F := p1
    refine q_wb sF ⟨a, hD⟩ wf pr (ev_var rfl zAt_rfl) (ev_var rfl p1) (fun h => k1 _ ?_) fun h H1 f1 => ?_
    · show blockO st l = _
      unfold blockO
      rw [if_pos h]
    · obtain ⟨hnn, hth, _⟩ := there_is h
      have hD1 := hD.fut f1
      refine s_ret f1.fh (ev_bit1 (ev_hm (res := fun x : Addr × S × List Nat => zB (blockP x.2.1 x.2.2)) (l.map Int.toNat) hD1.2.2 wf trivial (by decide +kernel) (ev_house T hD1 (ev_var rfl zAt_rfl)) (ea_cons (ev_var rfl (zN_of hnn p1)) ea_nil))) fun v H3 F3 f3 pv => k2 st _ ?_ v H3 F3 (.of (f1.trans f3)) (DeskAt.fut ⟨a, hD⟩ (f1.trans f3)) pv
      show blockO st l = _
      unfold blockO
      rw [if_neg]
      rw [h]
      exact fun z => by cases z
end
end G
end

section
set_option Elab.async false
set_option linter.all false
set_option maxRecDepth 100000
set_option maxHeartbeats 4000000
namespace G
open PySem PySem.Spec PyProof.Rows L2
theorem Fut.ofK {k : Addr} {F F1 F2 H H1 H2 : Hp} (u : Fut F F1 H H1) (hk : H k = none) (v : FutB k F1 F2 H1 H2) : Fut F F2 H H2 := by
  refine ⟨u.ff.trans v.ff, v.fh, fun b o e => v.hh b o (ne_of_none e hk) (u.hh b o e), fun b hb n => v.nw b (same_ne u.hh hb) (u.nw b hb n)⟩
section
variable {P : Program} {w : World} {K : PySem.W.Frag} {mg : Str → Option Value} {base : Heap} {A : Adr}
/-- methods of the desk that change nothing and refuse nothing -/
abbrev deSp (A : Adr) {α : Type} (args : Addr × S × α → List Rp) (pre : Addr × S × α → Prop) (res : Addr × S × α → Rp) : Sp := FSp (fun x : Addr × S × α => zAt x.1 :: args x) (fun x F H => DeskAt A x.1 x.2.1 F H ∧ WF x.2.1 ∧ pre x) res
section
variable {σ : L2.St} {F H R : Hp} {ta tl te : TE} {tr : TA} {E : XK} {d a : Addr} {s : S} {D : Ends} {tz : TS} {Q : VK}
theorem ev_dm {α : Type} {args : Addr × S × α → List Rp} {pre : Addr × S × α → Prop} {res : Addr × S × α → Rp} {m : Str} (x : α) (h : DeskAt A d s F R) (wf : WF s) (hp : pre (d, s, x)) (hm : notIn m ["house"] = true) (ha : Ev ta σ F R (zAt d)) [MSs (args (d, s, x))] (hr : EvA tr σ F R (args (d, s, x))) :
    Ev (tMeth A.D m (deSp A args pre res) [] E ta tr) σ F R (res (d, s, x)) :=
  ev_meth (P := zAt d) (d, s, x) (ins_desk h hm) (fun F' H' s1 s2 _ n => ⟨h.up s1 s2 n, wf, hp⟩) rfl ha hr
theorem r_all (sF : Same F H) (hA : HouseAt A a s F H) (wf : WF s) (ha : Ev ta σ F H (zAt a)) (q : ∀ o k H2 F2, Fut F F2 H H2 → H o = none → H k = none → OrdAt A o k s F2 H2 → Q (.ref o) H2) : tMeth A.H "all_orders" (sp_House_all_orders K A) [] E ta tNil σ H Q := by
  refine ha sF H (Same.refl _) _ fun v H1 F1 u1 p1 => ?_
  have p1 : v = .ref a := p1
  subst p1
  obtain ⟨a', dx, fs, e, hh, l⟩ := ins_house (m := "all_orders") hA (by decide +kernel) (.ref a) F1 H1 u1.ff u1.hh u1.fh rfl
  have nn : ∀ {x}, H1 x = none → H x = none := fun {x} nx => by
    cases e : H x with
    | none => rfl
    | some o =>
      rw [u1.hh _ _ e] at nx
      cases nx
  exact ⟨a', dx, fs, e, hh, l, a, s, F1, u1.fh, rfl, hA.fut u1, wf, fun o k H2 F2 u2 no nk hO => q o k H2 F2 (u1.trans u2) (nn no) (nn nk) hO⟩
/-- xs = [..], a list that may change -/
theorem q_newA {i : Nat} {Ps : List Rp} (sF : Same F H) (h : EvA tr σ F H Ps) (hz : Ps.length ≤ 1000) (k : ∀ vs l H1 F1, Fut F F1 H H1 → AllR Ps vs F1 → H1 l = none → Same F1 (upd H1 l (.lst vs)) → tz D (σ.set i (some (.ref l))) (upd H1 l (.lst vs))) : tSeq (tAsg (tLst tr) (gName i)) tz D σ H :=
  h sF H (Same.refl _) _ fun vs H1 F1 u1 av => ⟨by rw [av.len]; exact Nat.le_of_lt (small1000 hz), fun l hl => k vs l H1 F1 u1 av hl (same_upd u1.fh hl)⟩
/-- xs = ys + zs, a list that may change -/
theorem q_newC {i : Nat} {l m : List Int} (sF : Same F H) (ha : Ev ta σ F H (zL zI l)) (hb : Ev tl σ F H (zL zI m)) (k : ∀ p H1 F1, Fut F F1 H H1 → H1 p = none → Same F1 (upd H1 p (.lst ((l ++ m).map V.int))) → tz D (σ.set i (some (.ref p))) (upd H1 p (.lst ((l ++ m).map V.int)))) : tSeq (tAsg (tOp rCat ta tl) (gName i)) tz D σ H :=
  ev_two (Q := fun _ _ => True) ha hb sF (Same.refl _) (r := fun x y H2 => rCat x y H2 fun v H3 => tz D (σ.set i (some v)) H3) fun x y H3 F' u px qx => by
    obtain ⟨p, us, rfl, hp, lp, zp, pp⟩ := zL_at px
    obtain ⟨q, ws, rfl, hq, lq, zq, pq⟩ := zL_at qx
    rw [paired_ints pp] at hp
    rw [paired_ints pq] at hq
    refine ⟨p, q, _, _, rfl, rfl, u.fh _ _ hp, u.fh _ _ hq, ?_, fun r hr => ?_⟩
    · rw [List.length_map, List.length_map]
      have : l.length + m.length ≤ 40000 := by
        have h1 : l.length ≤ 20000 := zp
        have h2 : m.length ≤ 20000 := zq
        omega
      exact Nat.le_trans this (by decide)
    · rw [← List.map_append]
      exact k r H3 F' u hr (same_upd u.fh hr)
end
def manyOf (s : S) : Nat := manyP s.batches (Vbwbad.free s) (List.range s.batches.length)
def sp_Desk_many_orders (K : PySem.W.Frag) (A : Adr) : Sp := deSp A (α := Unit) (fun _ => []) (fun _ => True) (fun x => zL zI [((manyOf x.2.1 : Nat) : Int)])
theorem ok_Desk_many_orders (T : TxD K mg A) : MF P w K mg base CX0 17 A.D "many_orders" ["self"] (sp_Desk_many_orders K A) :=
  T.f_Desk_many_orders.mf fun f fd Fn => body_ok Fn sc_Desk_many_orders (fun _ => rfl) fun cdv B0 outer s H E hr => by
    refine ⟨_, (pss_cons (ps_set (i := 1) sc_Desk_many_orders.nd rfl (Or.inl rfl) (pe_methF0 (ok_House_all_orders T.toTxt) (hr.mono (by decide)) pass0 (pe_fld (pv 0) rfl)))
      (pss_one (ps_ret (pe_lst (pa_cons (pe_methF (ok_Orders_many T.toTxt) (hr.mono (by decide)) pass0 (pv 1) (pa_cons (pe_methF0 (ok_Orders_all_places T.toTxt) (hr.mono (by decide)) pass0 (pv 1)) pa_nil)) pa_nil))))), fun x F vs Q sF av pr kk => ?_⟩
    obtain ⟨d, st, _⟩ := x
    obtain ⟨u, rfl, p0⟩ := av.one
    obtain rfl : u = .ref d := p0
    obtain ⟨⟨a, hD⟩, wf, _⟩ := pr
    have hD : DeskH A d a st F H := hD
    have wf : WF st := wf
    refine r_all (E := E0) sF hD.2.2 wf (ev_house T hD (ev_var rfl zAt_rfl)) fun o k H1 F1 f1 no nk hO => ?_
    have hf := wf.few
    refine r_om (E := E0) (args := fun x : Addr × Addr × S × List Nat => [zTl zN x.2.2.2]) (pre := fun x => x.2.2.2.Sublist (List.range x.2.2.1.batches.length) ∧ x.2.2.2.length < 12) (res := fun x => zN (manyP x.2.2.1.batches (Vbwbad.free x.2.2.1) x.2.2.2)) (List.range st.batches.length) f1.fh hO wf ⟨List.Sublist.refl _, by rw [List.length_range]; show st.batches.length < 12; omega⟩ (by decide +kernel) (ev_var rfl zAt_rfl)
      (ea_cons (ev_om (res := fun x : Addr × Addr × S × Unit => zTl zN (List.range x.2.2.1.batches.length)) () hO wf trivial (by decide +kernel) (ev_var rfl zAt_rfl) ea_nil) ea_nil) fun v H2 F2 f2 hO2 pv => ?_
    have pv : v = .int ((manyOf st : Nat) : Int) := pv
    subst pv
    have fu := Fut.ofK f1 nk f2
    refine ⟨by show 1 ≤ sizeLine; decide, fun p hp => ?_⟩
    have f3 := Fut.new (o := HO.lst [.int ((manyOf st : Nat) : Int)]) fu.fh hp
    exact kk _ _ _ (fu.trans f3) ⟨p, _, rfl, upd_same, .cons rfl .nil, by show 1 ≤ 20000; decide⟩
def orderL (s : S) (k : Nat) : List B := (orderP s.batches (Vbwbad.free s) s.batches.length (List.range s.batches.length) k).filterMap fun i => s.batches[i]?
def orderO (s : S) (k : Int) : Ans := if (decide (0 ≤ k) && decide (k ≤ 1000000000)) = false then .error (-1) else if manyOf s ≤ k.toNat then .error (-10) else .ok (s, (Vbwbad.ids (orderL s k.toNat)).map fun n : Nat => (n : Int))
def sp_Desk_order (K : PySem.W.Frag) (A : Adr) : Sp := dSp A (α := Int) (fun x => [zI x.2.2]) (fun _ => True) (fun x => orderO x.2.1 x.2.2)
theorem ok_Desk_order (T : TxD K mg A) : MF P w K mg base (L2.CX P w) 19 A.D "order" ["self", "k"] (sp_Desk_order K A) :=
  T.f_Desk_order.mf fun f fd Fn => body_okD Fn sc_Desk_order (fun _ => rfl) fun cdv B0 outer s H E hr => by
    refine ⟨_, (pss_cons (ps_expr (pe_callF (ok_want T) (hr.mono (by decide)) (passes_call (takes_of rfl rfl rfl rfl) (fun _ _ _ _ h => h)) (pa_cons (pe_chain op_le op_le pe_int (pv 1) (pe_glob (v := .int (1000000000)) rfl T.c_MOST_NUMBER ⟨_, rfl⟩)) (pa_cons (pe_glob (v := .int (-1)) rfl T.c_OUT_OF_RANGE ⟨_, rfl⟩) pa_nil))))
      (pss_cons (ps_expr (pe_callF (ok_want T) (hr.mono (by decide)) (passes_call (takes_of rfl rfl rfl rfl) (fun _ _ _ _ h => h)) (pa_cons (pe_cmpR op_lt (pv 1) (pe_ix ix_list (pe_methF0 (ok_Desk_many_orders T) (hr.mono (by decide)) pass0 (pv 0)) pe_int (fun _ _ => rfl)) (nomark _)) (pa_cons (pe_glob (v := .int (-10)) rfl T.c_NONE_SUCH ⟨_, rfl⟩) pa_nil))))
      (pss_one (ps_ret (pe_callF (ok_numbers_of T.toTxt) (hr.mono (by decide)) pass0 (pa_cons (pe_methF (ok_Orders_order T.toTxt) (hr.mono (by decide)) pass0 (pe_methF0 (ok_House_all_orders T.toTxt) (hr.mono (by decide)) pass0 (pe_fld (pv 0) rfl)) (pa_cons (pv 1) pa_nil)) pa_nil)))))), fun d st k F vs Q sF av hD wf pr k1 k2 => ?_⟩
    obtain ⟨u, uk, rfl, p0, p1⟩ := av.two
    obtain rfl : u = .ref d := p0
    obtain ⟨a, hD⟩ := hD
    refine q_want sF (b := decide (0 ≤ k) && decide (k ≤ 1000000000)) (n := -1) (ev_chain (g := fun i j => decide (i ≤ j)) (g' := fun i j => decide (i ≤ j)) ev_int (ev_var rfl p1) (ev_c rfl)) (ev_c rfl) (fun h => k1 _ ?_) fun h H1 f1 => ?_
    · show orderO st k = _
      unfold orderO
      rw [if_pos h]
    · have hn1 : ¬ (decide (0 ≤ k) && decide (k ≤ 1000000000)) = false := by
        rw [h]
        exact fun z => by cases z
      obtain ⟨m, rfl⟩ : ∃ m : Nat, k = (m : Int) := by
        rw [Bool.and_eq_true, decide_eq_true_eq, decide_eq_true_eq] at h
        exact ⟨k.toNat, by omega⟩
      have hD1 := hD.fut f1
      refine q_want f1.fh (b := decide (m < manyOf st)) (n := -10) (Ev.bl (decide_eq_decide.mpr (by omega)) (ev_lt (i := (m : Int)) (j := ((manyOf st : Nat) : Int)) (ev_var rfl p1) (ev_ix (f := zI) (l := [((manyOf st : Nat) : Int)]) (j := 0) rfl rfl (ev_dm (res := fun x : Addr × S × Unit => zL zI [((manyOf x.2.1 : Nat) : Int)]) () ⟨a, hD1⟩ wf trivial (by decide +kernel) (ev_var rfl zAt_rfl) ea_nil) ev_int))) (ev_c rfl) (fun h => (k1 _ ?_).later f1) fun h2 H2 f2 => ?_
      · show orderO st m = _
        have := of_decide_eq_false h
        unfold orderO
        rw [if_neg hn1, Int.toNat_natCast, if_pos (by omega)]
      · have hlt := of_decide_eq_true h2
        have fu2 := f1.trans f2
        have hD2 := hD.fut fu2
        refine call1_of (r_all (E := E0) f2.fh hD2.2.2 wf (ev_house T hD2 (ev_var rfl zAt_rfl)) fun o kk H3 F3 f3 no nk hO => ?_)
        have fu3 := fu2.trans f3
        refine r_om (E := E0) (ta := tC (.ref o)) (tr := tCons (tVar 1) tNil) (σ := [some (.ref d), some uk]) (args := fun x : Addr × Addr × S × Nat => [zN x.2.2.2]) (pre := fun _ => True) (res := fun x => zBs A ((orderP x.2.2.1.batches (Vbwbad.free x.2.2.1) x.2.2.1.batches.length (List.range x.2.2.1.batches.length) x.2.2.2).filterMap fun i => x.2.2.1.batches[i]?)) m f3.fh hO wf trivial (by decide +kernel) (ev_c rfl) (ea_cons (ev_var rfl p1) ea_nil) fun v H4 F4 f4 hO4 pv => ?_
        have nk2 : H kk = none := by
          cases e : H kk with
          | none => rfl
          | some z =>
            rw [fu2.hh _ _ e] at nk
            cases nk
        have fu4 := Fut.ofK fu3 nk2 f4
        have pv : zBs A (orderL st m) v F4 := pv
        refine ⟨orderL st m, F4, fu4.fh, .cons pv .nil, trivial, fun y H5 F5 f5 py => k2 st _ ?_ y H5 F5 (.of (fu4.trans f5)) (DeskAt.fut ⟨a, hD⟩ (fu4.trans f5)) (zN_int py)⟩
        show orderO st m = _
        unfold orderO
        rw [if_neg hn1, Int.toNat_natCast, if_neg (by omega)]
/-! ### all told -/
def wantL (o : Option (Nat × Vec)) : List Int := match o with
  | none => [0]
  | some w => 1 :: (w.1 : Int) :: w.2.map fun n : Nat => (n : Int)
def natL (l : List Nat) : List Int := l.map fun n : Nat => (n : Int)
def toldL (b : B) : List Int := [(b.id : Int), (b.alts.length : Int)] ++ b.alts.flatMap natL ++ natL b.holds ++ wantL b.want
def Small (b : B) : Prop := b.alts.length ≤ 4 ∧ (∀ a ∈ b.alts, a.length ≤ 6) ∧ b.holds.length ≤ 6 ∧ ∀ w, b.want = some w → w.2.length ≤ 6
theorem small_of {s : S} (wf : WF s) {b : B} (h : b ∈ s.batches) : Small b := by
  obtain ⟨l1, l2⟩ := wf.len b h
  have hk := wf.kinds
  exact ⟨wf.fewA b h, fun a ha => by rw [l2 a ha]; exact hk, by rw [l1]; exact hk, fun w hw => by rw [(wf.wlen b h w hw).1]; exact hk⟩
theorem flat_le : ∀ {l : List Vec}, (∀ a ∈ l, a.length ≤ 6) → (l.flatMap natL).length ≤ 6 * l.length
  | [], _ => Nat.le_refl _
  | a :: l, h => by
    rw [List.flatMap_cons, List.length_append, List.length_cons]
    have h1 : (natL a).length = a.length := List.length_map ..
    have h2 := h a (by simp)
    have h3 := flat_le (l := l) fun x hx => h x (by simp [hx])
    omega
theorem told_le {b : B} (h : Small b) : (toldL b).length ≤ 100 := by
  obtain ⟨h1, h2, h3, h4⟩ := h
  have e1 := flat_le h2
  have e2 : (natL b.holds).length = b.holds.length := List.length_map ..
  have e3 : (wantL b.want).length ≤ 8 := by
    unfold wantL
    cases e : b.want with
    | none => show 1 ≤ 8; decide
    | some w =>
      show (w.2.map _).length + 1 + 1 ≤ 8
      have := h4 w e
      rw [List.length_map]
      omega
  unfold toldL
  rw [List.length_append, List.length_append, List.length_append]
  show 2 + _ + _ + _ ≤ 100
  omega
section
variable {σ : L2.St} {F H R : Hp} {te : TE} {D : Ends} {tz : TS}
/-- xs.extend(ys), both of numbers -/
theorem s_extI {i : Nat} {l : Addr} {L : List Int} {m : List Int} (sF : Same F H) (hi : σ[i]? = some (some (.ref l))) (hl : H l = some (.lst (L.map V.int))) (hf : F l = none) (hz : L.length + m.length ≤ sizeLine) (h : Ev te σ F H (zL zI m))
    (k : ∀ H1 F1, Fut F F1 H H1 → F1 l = none → Same F1 (upd H1 l (.lst ((L ++ m).map V.int))) → D.nx σ (upd H1 l (.lst ((L ++ m).map V.int)))) : tDrop (tBM K "list" rExtend (tVar i) (tCons te tNil)) D σ H :=
  s_ext sF hi hl hf (by rw [List.length_map]; exact hz) h fun ws H1 F1 u pw f1 s1 => by
    rw [paired_ints pw, ← List.map_append] at s1 ⊢
    exact k H1 F1 u f1 s1
theorem q_extI {i : Nat} {l : Addr} {L : List Int} {m : List Int} (sF : Same F H) (hi : σ[i]? = some (some (.ref l))) (hl : H l = some (.lst (L.map V.int))) (hf : F l = none) (hz : L.length + m.length ≤ sizeLine) (h : Ev te σ F H (zL zI m))
    (k : ∀ H1 F1, Fut F F1 H H1 → F1 l = none → Same F1 (upd H1 l (.lst ((L ++ m).map V.int))) → tz D σ (upd H1 l (.lst ((L ++ m).map V.int)))) : tSeq (tDrop (tBM K "list" rExtend (tVar i) (tCons te tNil))) tz D σ H := s_extI (D := { D with nx := tz D }) sF hi hl hf hz h k
end
def sp_Desk_told_of (K : PySem.W.Frag) (A : Adr) : Sp := deSp A (α := B) (fun x => [zBat A x.2.2]) (fun x => Small x.2.2) (fun x => zL zI (toldL x.2.2))
theorem ok_Desk_told_of (T : TxD K mg A) : MF P w K mg base CX0 1 A.D "told_of" ["self", "batch"] (sp_Desk_told_of K A) :=
  T.f_Desk_told_of.mf fun f fd Fn => body_ok Fn sc_Desk_told_of (fun _ => rfl) fun cdv B0 outer s H E hr => by
    refine ⟨_, (pss_cons (ps_set (i := 2) sc_Desk_told_of.nd rfl (Or.inl rfl) (pe_lst (pa_cons (pe_fld (pv 1) rfl) (pa_cons (pe_callB call_len_seq rfl T.b_len (by decide +kernel) (pa_cons (pe_fld (pv 1) rfl) pa_nil)) pa_nil))))
      (pss_cons (ps_for PassesOwn.never rfl (pi_list (pe_fld (pv 1) rfl)) (pg_name (i := 3) sc_Desk_told_of.nd rfl (Or.inl rfl))
      (pss_one (ps_expr (pe_bm PySem.F.plainAttrs_list PySem.F.slot_list_extend PySem.F.type_list_extend mt_extend (pv 2) (pa_cons (pv 3) pa_nil)))))
      (pss_cons (ps_expr (pe_bm PySem.F.plainAttrs_list PySem.F.slot_list_extend PySem.F.type_list_extend mt_extend (pv 2) (pa_cons (pe_fld (pv 1) rfl) pa_nil)))
      (pss_cons (ps_if (pt_cmpR op_isN (pe_fld (pv 1) rfl) pe_non (nomark _))
      (pss_one (ps_ret (pe_op op_cat (pv 2) (pe_lst (pa_cons pe_int pa_nil)))))
      pss_nil)
      (pss_one (ps_ret (pe_op op_cat (pe_op op_cat (pv 2) (pe_lst (pa_cons pe_int (pa_cons (pe_fld (pe_fld (pv 1) rfl) rfl) pa_nil)))) (pe_fld (pe_fld (pv 1) rfl) rfl)))))))), fun x F vs Q sF av pr kk => ?_⟩
    obtain ⟨d, st, b⟩ := x
    obtain ⟨u, ub, rfl, p0, p1⟩ := av.two
    obtain rfl : u = .ref d := p0
    obtain ⟨_, wf, hs⟩ := pr
    have p1 : zBat A b ub F := p1
    have hs : Small b := hs
    obtain ⟨h1, h2, h3, h4⟩ := id hs
    have hfl := flat_le h2
    have hhl : (natL b.holds).length = b.holds.length := List.length_map ..
    refine q_newA (Ps := [zI (b.id : Int), zI (b.alts.length : Int)]) sF (ea_cons (ev_fld hf_number T.c_B T.n_B_number (ev_var rfl p1)) (ea_cons (ev_len (ea_cons (ev_fld hf_alts T.c_B T.n_B_alternatives (ev_var rfl p1)) ea_nil)) ea_nil)) (by simp) fun vs l H1 F1 f1 av1 nl s1 => ?_
    obtain ⟨v1, v2, rfl, q1, q2⟩ := av1.two
    have q1 : v1 = .int (b.id : Int) := q1
    have q2 : v2 = .int (b.alts.length : Int) := q2
    subst q1 q2
    have nlH : H l = none := by
      cases e : H l with
      | none => rfl
      | some z =>
        rw [f1.hh _ _ e] at nl
        cases nl
    have fl1 : F1 l = none := same_none f1.fh nl
    have fu0 : Fut F F1 H (upd H1 l (.lst [.int (b.id : Int), .int (b.alts.length : Int)])) := f1.put fl1 nlH
    have p1' := up f1.ff p1
    refine q_for s1 (ei_list (f := fun a : Vec => zV a) (ev_fld hf_alts T.c_B T.n_B_alternatives (ev_var rfl p1'))) fun H2 F2 f2 => ⟨fun i σ F' H' => Fut F F' H H' ∧ Same F2 F' ∧ ∃ x3, σ = [some (.ref d), some ub, some (.ref l), x3] ∧ H' l = some (.lst (([(b.id : Int), (b.alts.length : Int)] ++ (b.alts.take i).flatMap natL).map V.int)) ∧ F' l = none,
      ⟨fu0.trans f2, Same.refl _, none, rfl, f2.hh _ _ upd_same, f2.nw l (by rw [upd_same]; exact fun z => by cases z) fl1⟩, fun i σ F' H' q => ⟨q.2.1, q.1.fh⟩, ?_, ?_⟩
    · rintro i a y σ F' Hc F3 H3 hb ⟨fu3, sf, x3, rfl, hl, fl⟩ fx gx
      have hmem := List.mem_of_getElem? hb
      have gx : zV a y F3 := gx
      refine b_g (s_extI (l := l) (L := [(b.id : Int), (b.alts.length : Int)] ++ (b.alts.take i).flatMap natL) (m := natL a) fx.fh rfl (fx.hh _ _ hl) (fx.nw l (by rw [hl]; exact fun z => by cases z) fl) ?_ (ev_var rfl (zN_int gx)) fun H4 F4 f4 fl4 s4 => ⟨F4, ((fu3.trans fx).trans f4).put fl4 nlH, (sf.trans fx.ff).trans f4.ff, some y, rfl, ?_, fl4⟩)
      · have e1 : ((b.alts.take i).flatMap natL).length ≤ 6 * (b.alts.take i).length := flat_le fun x hx => h2 x (List.mem_of_mem_take hx)
        have e2 : (b.alts.take i).length ≤ b.alts.length := List.length_take_le' _ _
        have e3 : (natL a).length ≤ 6 := by
          have : (natL a).length = a.length := List.length_map ..
          rw [this]
          exact h2 a hmem
        rw [List.length_append]
        refine Nat.le_trans (?_ : _ ≤ 100) (by decide)
        show 2 + _ + _ ≤ 100
        omega
      · rw [upd_same, take_more hb, List.flatMap_append, List.append_assoc]
        show some (HO.lst _) = some (HO.lst _)
        rw [List.flatMap_cons, List.flatMap_nil, List.append_nil]
    · rintro σ F' H' ⟨fu3, sf, x3, rfl, hl, fl⟩
      rw [List.take_length] at hl
      have p3 : zBat A b ub F' := up fu3.ff p1
      refine q_extI (l := l) (m := natL b.holds) fu3.fh rfl hl fl ?_ ((ev_fld hf_held T.c_B T.n_B_held (ev_var rfl p3)).imp fun v F4 _ p => zN_int p) fun H4 F4 f4 fl4 s4 => ?_
      · rw [List.length_append]
        refine Nat.le_trans (?_ : _ ≤ 100) (by decide)
        show 2 + _ + _ ≤ 100
        omega
      · have fu4 := (fu3.trans f4).put (o := .lst ((([(b.id : Int), (b.alts.length : Int)] ++ b.alts.flatMap natL) ++ natL b.holds).map V.int)) fl4 nlH
        have add := Fut.add fu4 nlH upd_same fl4 sF
        have p4 : zBat A b ub (upd F4 l (.lst ((([(b.id : Int), (b.alts.length : Int)] ++ b.alts.flatMap natL) ++ natL b.holds).map V.int))) := up add.ff p1
        have pl : zL zI (([(b.id : Int), (b.alts.length : Int)] ++ b.alts.flatMap natL) ++ natL b.holds) (.ref l) (upd F4 l (.lst ((([(b.id : Int), (b.alts.length : Int)] ++ b.alts.flatMap natL) ++ natL b.holds).map V.int))) := ⟨l, _, rfl, upd_same, paired_of_ints _, by
          rw [List.length_append, List.length_append]
          show 2 + _ + _ ≤ 20000
          omega⟩
        have er := ev_fld (K := K) (σ := [some (.ref d), some ub, some (.ref l), x3]) (R := (upd H4 l (.lst ((([(b.id : Int), (b.alts.length : Int)] ++ b.alts.flatMap natL) ++ natL b.holds).map V.int)))) hf_request T.c_B T.n_B_request (ev_var (i := 1) rfl p4)
        have htl := told_le hs
        refine q_when add.fh (et_test (ev_isN (b := b.want.isNone) (fun v F' p => zW_none p) er)) (fun hc H5 f5 => ?_) fun hc H5 f5 => ?_
        · cases hw : b.want with
          | some x =>
            rw [hw] at hc
            cases hc
          | none =>
            have et : toldL b = (([(b.id : Int), (b.alts.length : Int)] ++ b.alts.flatMap natL) ++ natL b.holds) ++ [0] := by
              unfold toldL
              rw [hw]
              rfl
            rw [et] at htl
            refine s_ret (P := zL zI (toldL b)) f5.fh ?_ fun v H6 F6 f6 pv => kk v H6 F6 ((add.trans f5).trans f6) pv
            rw [et]
            exact ev_cat (by rw [List.length_append] at htl; show _ ≤ 20000; omega) (ev_var rfl pl) (ev_lst1 (f := zI) (a := 0) ev_int)
        · cases hw : b.want with
          | none =>
            rw [hw] at hc
            cases hc
          | some x =>
            rw [hw] at er
            have er5 := ev_fld (K := K) (σ := [some (.ref d), some ub, some (.ref l), x3]) (R := H5) hf_request T.c_B T.n_B_request (ev_var (i := 1) rfl p4)
            rw [hw] at er5
            have et : toldL b = ((([(b.id : Int), (b.alts.length : Int)] ++ b.alts.flatMap natL) ++ natL b.holds) ++ [1, (x.1 : Int)]) ++ natL x.2 := by
              unfold toldL
              rw [hw, List.append_assoc _ [1, (x.1 : Int)]]
              rfl
            rw [et] at htl
            refine s_ret (P := zL zI (toldL b)) f5.fh ?_ fun v H6 F6 f6 pv => kk v H6 F6 ((add.trans f5).trans f6) pv
            rw [et]
            refine ev_cat (by rw [List.length_append] at htl; show _ ≤ 20000; omega) (ev_cat ?_ (ev_var rfl pl) (ev_lst2 (f := zI) ev_int (ev_fld (hf_rnumber (A := A) (x := x)) T.c_R T.n_R_number er5))) ((ev_fld (hf_things (A := A) (x := x)) T.c_R T.n_R_things er5).imp fun v F7 _ p => zN_int p)
            rw [List.length_append, List.length_append] at htl
            show _ ≤ 20000
            omega
def allL (s : S) : List Int := (Vbwbad.listed s.totals ++ [(s.batches.length : Int)]) ++ s.batches.flatMap toldL
def sp_Desk_all_told (K : PySem.W.Frag) (A : Adr) : Sp := deSp A (α := Unit) (fun _ => []) (fun _ => True) (fun x => zL zI (allL x.2.1))
theorem flat_told : ∀ {l : List B}, (∀ b ∈ l, Small b) → (l.flatMap toldL).length ≤ 100 * l.length
  | [], _ => Nat.le_refl _
  | a :: l, h => by
    rw [List.flatMap_cons, List.length_append, List.length_cons]
    have h2 := told_le (h a (by simp))
    have h3 := flat_told (l := l) fun x hx => h x (by simp [hx])
    omega
theorem ok_Desk_all_told (T : TxD K mg A) : MF P w K mg base CX0 2 A.D "all_told" ["self"] (sp_Desk_all_told K A) :=
  T.f_Desk_all_told.mf fun f fd Fn => body_ok Fn sc_Desk_all_told (fun _ => rfl) fun cdv B0 outer s H E hr => by
    refine ⟨_, (pss_cons (ps_set (i := 1) sc_Desk_all_told.nd rfl (Or.inl rfl) (pe_op op_cat (pe_callF (ok_listed T) (hr.mono (by decide)) pass0 (pa_cons (pe_fld (pe_fld (pv 0) rfl) rfl) pa_nil)) (pe_lst (pa_cons (pe_callB call_len_seq rfl T.b_len (by decide +kernel) (pa_cons (pe_fld (pe_fld (pv 0) rfl) rfl) pa_nil)) pa_nil))))
      (pss_cons (ps_for PassesOwn.never rfl (pi_list (pe_fld (pe_fld (pv 0) rfl) rfl)) (pg_name (i := 2) sc_Desk_all_told.nd rfl (Or.inl rfl))
      (pss_one (ps_expr (pe_bm PySem.F.plainAttrs_list PySem.F.slot_list_extend PySem.F.type_list_extend mt_extend (pv 1) (pa_cons (pe_methF (ok_Desk_told_of T) (hr.mono (by decide)) pass0 (pv 0) (pa_cons (pv 2) pa_nil)) pa_nil)))))
      (pss_one (ps_ret (pv 1))))), fun x F vs Q sF av pr kk => ?_⟩
    obtain ⟨d, st, _⟩ := x
    obtain ⟨u, rfl, p0⟩ := av.one
    obtain rfl : u = .ref d := p0
    obtain ⟨⟨a, hD⟩, wf, _⟩ := pr
    have hD : DeskH A d a st F H := hD
    have wf : WF st := wf
    have hkinds := wf.kinds
    have hfew := wf.few
    have hsm : ∀ b ∈ st.batches, Small b := fun b hb => small_of wf hb
    have el : Ev (tCall (sp_listed K A) [] E0 (tCons (tFld K (tFld K (tVar 0) "house") "totals") tNil)) [some (.ref d), none, none] F H (zL zI (Vbwbad.listed st.totals)) := by
      have e : ((st.totals.map fun n : Nat => (n : Int)).length : Int) :: (st.totals.map fun n : Nat => (n : Int)) = Vbwbad.listed st.totals := by
        rw [List.length_map]
        rfl
      rw [← e]
      exact ev_call (args := fun x : List Int => [zL zI x]) (pre := fun x _ _ => x.length < LB) (res := fun x => zL zI ((x.length : Int) :: x)) (st.totals.map fun n : Nat => (n : Int)) (fun _ _ _ _ _ _ => by show (st.totals.map fun n : Nat => (n : Int)).length < 20000; rw [List.length_map]; omega) (ea_cons ((ev_tot T.toTxt hD.2.2 (ev_house T hD (ev_var rfl zAt_rfl))).imp fun v F' _ p => zN_int p) ea_nil)
    refine q_newC (l := Vbwbad.listed st.totals) (m := [(st.batches.length : Int)]) sF el (ev_lst1 (f := zI) (ev_len (ea_cons (ev_bts T.toTxt hD.2.2 (ev_house T hD (ev_var rfl zAt_rfl))) ea_nil))) fun l H1 F1 f1 nl s1 => ?_
    have nlH : H l = none := by
      cases e : H l with
      | none => rfl
      | some z =>
        rw [f1.hh _ _ e] at nl
        cases nl
    have fl1 : F1 l = none := same_none f1.fh nl
    have fu0 : Fut F F1 H (upd H1 l (.lst ((Vbwbad.listed st.totals ++ [(st.batches.length : Int)]).map V.int))) := f1.put fl1 nlH
    have hD0 := hD.fut fu0
    have hll : (Vbwbad.listed st.totals ++ [(st.batches.length : Int)]).length ≤ 8 := by
      rw [List.length_append, listed_len]
      show _ + 1 ≤ 8
      omega
    refine q_for s1 (ei_list (f := fun b : B => zBat A b) (ev_bts T.toTxt hD0.2.2 (ev_house T hD0 (ev_var rfl zAt_rfl)))) fun H2 F2 f2 => ⟨fun i σ F' H' => Fut F F' H H' ∧ Same F2 F' ∧ ∃ x3, σ = [some (.ref d), some (.ref l), x3] ∧ H' l = some (.lst (((Vbwbad.listed st.totals ++ [(st.batches.length : Int)]) ++ (st.batches.take i).flatMap toldL).map V.int)) ∧ F' l = none,
      ⟨fu0.trans f2, Same.refl _, none, rfl, (by rw [List.take_zero, List.flatMap_nil, List.append_nil]; exact f2.hh _ _ upd_same), f2.nw l (by rw [upd_same]; exact fun z => by cases z) fl1⟩, fun i σ F' H' q => ⟨q.2.1, q.1.fh⟩, ?_, ?_⟩
    · rintro i b y σ F' Hc F3 H3 hb ⟨fu3, sf, x3, rfl, hl, fl⟩ fx gx
      have hmem := List.mem_of_getElem? hb
      have gx : zBat A b y F3 := gx
      have hD3 := hD.fut (fu3.trans fx)
      refine b_g (s_extI (l := l) (L := (Vbwbad.listed st.totals ++ [(st.batches.length : Int)]) ++ (st.batches.take i).flatMap toldL) (m := toldL b) fx.fh rfl (fx.hh _ _ hl) (fx.nw l (by rw [hl]; exact fun z => by cases z) fl) ?_ (ev_dm (pre := fun x : Addr × S × B => Small x.2.2) (res := fun x : Addr × S × B => zL zI (toldL x.2.2)) b ⟨a, hD3⟩ wf (hsm b hmem) (by decide +kernel) (ev_var rfl zAt_rfl) (ea_cons (ev_var rfl gx) ea_nil)) fun H4 F4 f4 fl4 s4 => ⟨F4, ((fu3.trans fx).trans f4).put fl4 nlH, (sf.trans fx.ff).trans f4.ff, some y, rfl, ?_, fl4⟩)
      · have e1 : ((st.batches.take i).flatMap toldL).length ≤ 100 * (st.batches.take i).length := flat_told fun x hx => hsm x (List.mem_of_mem_take hx)
        have e2 : (st.batches.take i).length ≤ st.batches.length := List.length_take_le' _ _
        have e3 := told_le (hsm b hmem)
        rw [List.length_append]
        refine Nat.le_trans (?_ : _ ≤ 2000) (by decide)
        omega
      · rw [upd_same, take_more hb, List.flatMap_append, List.append_assoc (Vbwbad.listed st.totals ++ [(st.batches.length : Int)])]
        show some (HO.lst _) = some (HO.lst _)
        rw [List.flatMap_cons, List.flatMap_nil, List.append_nil]
    · rintro σ F' H' ⟨fu3, sf, x3, rfl, hl, fl⟩
      rw [List.take_length] at hl
      have add := Fut.add fu3 nlH hl fl sF
      refine s_ret (F := upd F' l (.lst ((allL st).map V.int))) (P := zL zI (allL st)) add.fh (ev_var rfl ⟨l, _, rfl, upd_same, paired_of_ints _, ?_⟩) fun v H6 F6 f6 pv => kk v H6 F6 (add.trans f6) pv
      have e1 := flat_told hsm
      unfold allL
      rw [List.length_append]
      show _ ≤ 20000
      omega
end
end G
end

section
set_option Elab.async false
set_option linter.all false
set_option maxRecDepth 100000
set_option maxHeartbeats 4000000
/-! list(zip(xs, ys)), xs and ys lists; xs[::2], xs[1::2] -/
namespace ZipL
open PySem PySem.Spec PyProof.Rows PySem.Calls
theorem zip_no_len : typeLookup (.type "zip") "__len__" = pure none := am_miss_of_fast (by decide +kernel)
theorem zip_no_hint : typeLookup (.type "zip") "__length_hint__" = pure none := am_miss_of_fast (by decide +kernel)
/-- a zip that has given i pairs -/
def ZSt (z TI TO i1 i2 l1 l2 S : Addr) (xs ys : Array Value) (i : Nat) (h : Heap) : Prop := IsPair h TI (.ref i1) (.ref i2) ∧ h.IsListIter i1 l1 i ∧ h.IsListIter i2 l2 i ∧ h.IsList l1 xs ∧ h.IsList l2 ys ∧
  ((IsZip h z TI TO .none ∧ ∃ a b, IsPair h TO a b) ∨ ∃ T f oT, IsZipHeld h z TI TO T f ∧ h.get? T = some oT ∧ T ≠ z ∧ T ≠ i1 ∧ T ≠ i2 ∧ T ≠ S)
structure ZOff (z TI TO i1 i2 l1 l2 S : Addr) : Prop where
  z : z < S
  TI : TI < S
  TO : TO < S
  i1 : i1 < S
  i2 : i2 < S
  l1 : l1 < S
  l2 : l2 < S
theorem ZSt.keep {z TI TO i1 i2 l1 l2 S : Addr} {xs ys : Array Value} {i : Nat} {h h' : Heap} (st : ZSt z TI TO i1 i2 l1 l2 S xs ys i h) (O : ZOff z TI TO i1 i2 l1 l2 S) (hk : ∀ b o, b ≠ S → h.get? b = some o → h'.get? b = some o) : ZSt z TI TO i1 i2 l1 l2 S xs ys i h' := by
  obtain ⟨hTI, h1, h2, hl1, hl2, hz⟩ := st
  have ne : ∀ {b}, b < S → b ≠ S := fun h => Nat.ne_of_lt h
  refine ⟨hk _ _ (ne O.TI) hTI, h1.at fun o e => hk _ o (ne O.i1) e, h2.at fun o e => hk _ o (ne O.i2) e, hl1.at fun o e => hk _ o (ne O.l1) e, hl2.at fun o e => hk _ o (ne O.l2) e, ?_⟩
  rcases hz with ⟨hz, a, b, hTO⟩ | ⟨T, f, oT, hz, hT, r1, r2, r3, r4⟩
  · exact .inl ⟨hk _ _ (ne O.z) hz, a, b, hk _ _ (ne O.TO) hTO⟩
  · exact .inr ⟨T, f, oT, hk _ _ (ne O.z) hz, hk _ _ r4 hT, r1, r2, r3, r4⟩
/-- the pairs that were given -/
def ZG (xs ys : Array Value) (S : Addr) (h : Heap) (as : List Addr) : Prop := (∀ a ∈ as, S < a) ∧ ∀ (j : Nat) (a : Addr), as[j]? = some a → ∃ x y, xs[j]? = some x ∧ ys[j]? = some y ∧ IsPair h a x y
section
variable {prog : Program} {w : World} {A : Around} {s : Shared} {R : Result → Shared → Prop} {z TI TO i1 i2 l1 l2 S : Addr} {xs ys : Array Value}
theorem z_loop (hh : A.handled = none) (D : ZipApart z TI TO i1 i2 l1 l2) (O : ZOff z TI TO i1 i2 l1 l2 S) (hn : min xs.size ys.size ≤ sizeLine) (res : Value) {h₁ : Heap}
    (hR : ∀ h' tk acc c as, (∀ b o, b ≠ S → b ≠ z → b ≠ TO → b ≠ i1 → b ≠ i2 → h₁.get? b = some o → h'.get? b = some o) → h'.get? S = some { cls := .type "list", dict := none, data := .seq acc c, slots := #[] } → as.length = min xs.size ys.size → ZG xs ys S h' as → as.Nodup →
      acc.toList = as.map Value.ref → R (.ok (.ret res)) { s with heap := h', toks := tk }) :
    ∀ (k i : Nat) (h : Heap) (tk c : Nat) (acc : Array Value) (as : List Addr), min xs.size ys.size - i = k → i ≤ min xs.size ys.size → ZSt z TI TO i1 i2 l1 l2 S xs ys i h → (∀ b o, b ≠ S → b ≠ z → b ≠ TO → b ≠ i1 → b ≠ i2 → h₁.get? b = some o → h.get? b = some o) →
      h.get? S = some { cls := .type "list", dict := none, data := .seq acc c, slots := #[] } → acc.toList = as.map Value.ref → as.length = i → ZG xs ys S h as → as.Nodup →
      codeAny (model prog w) A (.builtin "list.extend.loop" ⟨[.ref S, .ref z, res], []⟩) R { s with heap := h, toks := tk } := by
  intro k
  induction k with
  | zero =>
    intro i h tk c acc as hk hi hst hkeep hS hacc hal hG hnd
    have hin : i = min xs.size ys.size := by omega
    refine codeAny_builtin PySem.F.entry_extend_loop ?_
    rw [Around.under_plainId PySem.F.plain_extend_loop _]
    show wpAny _ A.in1 (pyNext (.ref z) >>= _) _ _ _
    obtain ⟨hTI, h1, h2, hl1, hl2, hz⟩ := hst
    have hend : xs[i]? = none ∨ ys[i]? = none := by
      subst hin
      rcases Nat.le_total xs.size ys.size with h | h
      · exact .inl (Array.getElem?_eq_none (by rw [Nat.min_eq_left h]; exact Nat.le_refl _))
      · exact .inr (Array.getElem?_eq_none (by rw [Nat.min_eq_right h]; exact Nat.le_refl _))
    have fin : ∀ h', (∀ c o, c ≠ z → c ≠ TO → c ≠ i1 → c ≠ i2 → h.get? c = some o → h'.get? c = some o) → R (.ok (.ret res)) { s with heap := h', toks := tk } := fun h' he => by
      refine hR h' tk acc c as (fun b o q0 q1 q2 q3 q4 e => he b o q1 q2 q3 q4 (hkeep b o q0 q1 q2 q3 q4 e)) (he S _ (Nat.ne_of_gt O.z) (Nat.ne_of_gt O.TO) (Nat.ne_of_gt O.i1) (Nat.ne_of_gt O.i2) hS) (by omega) ⟨hG.1, fun j a hj => ?_⟩ hnd hacc
      obtain ⟨x, y, e1, e2, e3⟩ := hG.2 j a hj
      have ha := hG.1 a (List.mem_of_getElem? hj)
      exact ⟨x, y, e1, e2, he a _ (Nat.ne_of_gt (Nat.lt_trans O.z ha)) (Nat.ne_of_gt (Nat.lt_trans O.TO ha)) (Nat.ne_of_gt (Nat.lt_trans O.i1 ha)) (Nat.ne_of_gt (Nat.lt_trans O.i2 ha)) e3⟩
    rcases hz with ⟨hz, a, b, hTO⟩ | ⟨T, f, oT, hz, hT, r1, r2, r3, r4⟩
    · exact wpAny_bind (wpAny_pyNext_zip_end (s := { s with heap := h, toks := tk }) (A := A.in1) hh D hz hTI hTO h1 h2 hl1 hl2 hend fun h' he => wpAny_pure (fin h' he))
    · exact wpAny_bind (wpAny_pyNext_zip_end_held (s := { s with heap := h, toks := tk }) (A := A.in1) hh D hz hT hTI h1 h2 hl1 hl2 hend fun h' he => wpAny_pure (fin h' fun c o q1 _ q3 q4 e => he c o q1 q3 q4 e))
  | succ k ih =>
    intro i h tk c acc as hk hi hst hkeep hS hacc hal hG hnd
    have hlt : i < min xs.size ys.size := by omega
    have hsz : acc.size = i := by rw [← Array.length_toList, hacc, List.length_map, hal]
    have hix : i < xs.size := Nat.lt_of_lt_of_le hlt (Nat.min_le_left ..)
    have hiy : i < ys.size := Nat.lt_of_lt_of_le hlt (Nat.min_le_right ..)
    have ex := Array.getElem?_eq_getElem hix
    have ey := Array.getElem?_eq_getElem hiy
    refine codeAny_builtin PySem.F.entry_extend_loop ?_
    rw [Around.under_plainId PySem.F.plain_extend_loop _]
    show wpAny _ A.in1 (pyNext (.ref z) >>= _) _ _ _
    have hSl : S < h.objs.size := Heap.lt_size hS
    obtain ⟨hTI, h1, h2, hl1, hl2, hz⟩ := id hst
    have n1 : h.objs.size ≠ i1 := let ⟨_, e, _⟩ := h1; Nat.ne_of_gt (Heap.lt_size e)
    have n2 : h.objs.size ≠ i2 := let ⟨_, e, _⟩ := h2; Nat.ne_of_gt (Heap.lt_size e)
    have fin : ∀ h', ZSt z TI TO i1 i2 l1 l2 S xs ys (i + 1) h' → IsPair h' h.objs.size xs[i] ys[i] → h'.objs.size = h.objs.size + 1 → (∀ c o, c ≠ z → c ≠ TO → c ≠ i1 → c ≠ i2 → h.get? c = some o → h'.get? c = some o) →
        wpAny (model prog w) A.in1 (updateSeq S (·.push (Value.ref h.objs.size)) >>= fun _ => (again (.builtin "list.extend.loop" ⟨[.ref S, .ref z, res], []⟩) : Sem Fin)) (fun fin s' => match fin with | .done f => R (.ok f) s' | .again c' => c'.quiet = true ∧ codeAny (model prog w) A c' R s') (fun e s' => R (.error e) s') { s with heap := h', toks := tk } := by
      intro h' hst' ht hz' hkp
      have hS' := hkp S _ (Nat.ne_of_gt O.z) (Nat.ne_of_gt O.TO) (Nat.ne_of_gt O.i1) (Nat.ne_of_gt O.i2) hS
      have up : ∀ b o, b ≠ S → h'.get? b = some o → (h'.update S (Obj.mapSeq (·.push (Value.ref h.objs.size)))).get? b = some o := fun b o hb e => (Heap.get?_update_other _ _ (Ne.symm hb)).trans e
      refine wpAny_bind ?_
      refine wpAny_updateSeq hS' rfl (wpAny_pure ⟨plainId_quiet PySem.F.plain_extend_loop _, ih (i + 1) _ tk _ (acc.push (Value.ref h.objs.size)) (as ++ [h.objs.size]) (by omega) hlt (hst'.keep O up)
        (fun b o q0 q1 q2 q3 q4 e => up b o q0 (hkp b o q1 q2 q3 q4 (hkeep b o q0 q1 q2 q3 q4 e))) (Heap.get?_update_self _ hS' rfl) (by rw [Array.toList_push, hacc, List.map_append]; rfl) (by rw [List.length_append, hal]; rfl) ⟨?_, ?_⟩ ?_⟩) (by rw [hsz]; omega) (by show (acc.push (Value.ref h.objs.size)).size ≤ sizeLine + 1; rw [Array.size_push, hsz]; omega)
      · intro a ha
        rcases List.mem_append.mp ha with ha | ha
        · exact hG.1 a ha
        · rw [List.mem_singleton.mp ha]
          exact hSl
      · intro j b hj
        rcases Nat.lt_trichotomy j as.length with q | q | q
        · rw [List.getElem?_append_left q] at hj
          obtain ⟨x, y, e1, e2, e3⟩ := hG.2 j b hj
          have hb := hG.1 b (List.mem_of_getElem? hj)
          exact ⟨x, y, e1, e2, up b _ (Nat.ne_of_gt hb) (hkp b _ (Nat.ne_of_gt (Nat.lt_trans O.z hb)) (Nat.ne_of_gt (Nat.lt_trans O.TO hb)) (Nat.ne_of_gt (Nat.lt_trans O.i1 hb)) (Nat.ne_of_gt (Nat.lt_trans O.i2 hb)) e3)⟩
        · subst q
          have hb : h.objs.size = b := by simpa using hj
          subst hb
          subst hal
          exact ⟨_, _, ex, ey, up _ _ (Nat.ne_of_gt hSl) ht⟩
        · have hnone : (as ++ [h.objs.size])[j]? = none := List.getElem?_eq_none (by rw [List.length_append, List.length_singleton]; omega)
          rw [hnone] at hj
          cases hj
      · refine List.nodup_append.mpr ⟨hnd, (by simp), fun a ha b hb e => ?_⟩
        rw [List.mem_singleton.mp hb] at e
        obtain ⟨j, hj⟩ := List.mem_iff_getElem?.mp ha
        obtain ⟨x, y, _, _, e3⟩ := hG.2 j a hj
        exact absurd e (Nat.ne_of_lt (Heap.lt_size e3))
    rcases hz with ⟨hz, a, b, hTO⟩ | ⟨T, f, oT, hz, hT, r1, r2, r3, r4⟩
    · refine wpAny_bind (wpAny_pyNext_zip_item (s := { s with heap := h, toks := tk }) (A := A.in1) D hz hTI hTO h1 h2 hl1 hl2 ex ey fun h' a1 a2 a3 a4 a5 a6 hk => ?_)
      exact fin h' ⟨hk _ _ D.TIz D.TITO D.TIi1 D.TIi2 hTI, a3, a4, hl1.at fun o e => hk _ o D.l1z D.l1TO D.l1i1 D.l1i2 e, hl2.at fun o e => hk _ o D.l2z D.l2TO D.l2i1 D.l2i2 e,
        .inr ⟨h.objs.size, false, _, a1, a5, Nat.ne_of_gt (Nat.lt_trans O.z hSl), n1, n2, Nat.ne_of_gt hSl⟩⟩ a5 a6 hk
    · refine wpAny_bind (wpAny_pyNext_zip_item_held (s := { s with heap := h, toks := tk }) (A := A.in1) D hz hT hTI h1 h2 hl1 hl2 ex ey fun h' a1 a3 a4 a5 a6 hk => ?_)
      exact fin h' ⟨hk _ _ D.TIz D.TIi1 D.TIi2 hTI, a3, a4, hl1.at fun o e => hk _ o D.l1z D.l1i1 D.l1i2 e, hl2.at fun o e => hk _ o D.l2z D.l2i1 D.l2i2 e, .inr ⟨T, true, oT, a1, hk _ _ r1 r2 r3 hT, r1, r2, r3, r4⟩⟩ a5 a6 fun c o q1 _ q3 q4 e => hk c o q1 q3 q4 e
end
section
variable {prog : Program} {w : World} {A : Around} {E : Value → Shared → Prop} {s : Shared} {l1 l2 : Addr} {xs ys : Array Value}
theorem z_hint {z : Addr} (hT : s.TypeIs (.ref z) "zip") {Q : Bool → Shared → Prop} (h : Q true s) : wpAny (model prog w) A (Builtin.List.listLengthHint (.ref z)) Q E s := by
  unfold Builtin.List.listLengthHint
  refine wpAny_bind (wpAny_specialOf hT zip_no_len ?_)
  show wpAny _ A (specialOf (Value.ref z) (Str.ofString "__length_hint__") >>= _) _ _ _
  refine wpAny_bind (wpAny_specialOf hT zip_no_hint ?_)
  exact wpAny_pure h
/-- list(z), z = zip(xs, ys) new -/
theorem z_call {z TI TO i1 i2 : Addr} {Q : Value → Shared → Prop} (hh : A.handled = none) (D : ZipApart z TI TO i1 i2 l1 l2) (hz : IsZip s.heap z TI TO .none) (hTI : IsPair s.heap TI (.ref i1) (.ref i2)) (hTO : ∃ a b, IsPair s.heap TO a b)
    (h1 : s.heap.IsListIter i1 l1 0) (h2 : s.heap.IsListIter i2 l2 0) (hl1 : s.heap.IsList l1 xs) (hl2 : s.heap.IsList l2 ys) (hn : min xs.size ys.size ≤ sizeLine)
    (hQ : ∀ h' tk acc c as, (∀ b o, b ≠ z → b ≠ TO → b ≠ i1 → b ≠ i2 → s.heap.get? b = some o → h'.get? b = some o) → h'.get? s.heap.objs.size = some { cls := .type "list", dict := none, data := .seq acc c, slots := #[] } → as.length = min xs.size ys.size → ZG xs ys s.heap.objs.size h' as → as.Nodup →
      acc.toList = as.map Value.ref → Q (.ref s.heap.objs.size) { s with heap := h', toks := tk }) :
    wpAny (model prog w) A (call (.type "list") [.ref z]) Q E s := by
  obtain ⟨ta, tb, hTO⟩ := hTO
  have O : ZOff z TI TO i1 i2 l1 l2 s.heap.objs.size := ⟨Heap.lt_size hz, Heap.lt_size hTI, Heap.lt_size hTO, (let ⟨_, e, _⟩ := h1; Heap.lt_size e), (let ⟨_, e, _⟩ := h2; Heap.lt_size e), (let ⟨_, e, _⟩ := hl1; Heap.lt_size e), (let ⟨_, e, _⟩ := hl2; Heap.lt_size e)⟩
  refine callType_codes (Q₁ := fun obj s₁ => obj = .ref s.heap.objs.size ∧ s₁ = { s with heap := s.heap.push { cls := .type "list", data := .seq #[] } }) PySem.F.called_list (PySem.F.typeCall_list_1 _) PySem.F.entry_list_init
    (code_list_new _ ⟨rfl, rfl⟩) fun obj s₁ h₁ => ?_
  obtain ⟨rfl, rfl⟩ := h₁
  have hS : (s.heap.push { cls := .type "list", data := .seq #[] }).get? s.heap.objs.size = some { cls := .type "list", data := .seq #[] } := Heap.get?_push_size _ rfl
  refine ⟨⟨_, hS, rfl⟩, PySem.F.args_list_init_2 _ _, ?_⟩
  have st0 : ZSt z TI TO i1 i2 l1 l2 s.heap.objs.size xs ys 0 s.heap := ⟨hTI, h1, h2, hl1, hl2, .inl ⟨hz, ta, tb, hTO⟩⟩
  have key : ∀ (h : Heap) (c₁ tk : Nat), (∀ b o, s.heap.get? b = some o → h.get? b = some o) → h.get? s.heap.objs.size = some { cls := .type "list", data := .seq #[] c₁ } →
      codeAny (model prog w) A.in1 (.builtin "list.extend.loop" ⟨[.ref s.heap.objs.size, .ref z, .none], []⟩) (fun r s' => match r with | .ok f => f = .ret .none ∧ Q (.ref s.heap.objs.size) s' | .error e => E e s') { s with heap := h, toks := tk } := by
    intro h c₁ tk hk hS₁
    refine z_loop (A := A.in1) (s := s) (h₁ := s.heap) hh D O hn .none (fun h' tk' acc c as hk' hS' hl hG hnd hacc => ?_) _ 0 h tk c₁ #[] [] rfl (Nat.zero_le _) (st0.keep O fun b o _ e => hk b o e) (fun b o _ _ _ _ _ e => hk b o e) hS₁ rfl rfl ⟨(fun _ ha => nomatch ha), fun j a hj => by simp at hj⟩ List.nodup_nil
    exact ⟨rfl, hQ h' tk' acc c as (fun b o q1 q2 q3 q4 e => hk' b o (Nat.ne_of_lt (Heap.lt_size e)) q1 q2 q3 q4 e) hS' hl hG hnd hacc⟩
  show wpAny _ A.in1.in1 (do let old ← Builtin.List.listItems (.ref s.heap.objs.size); Builtin.List.listUpdate (.ref s.heap.objs.size) (fun _ => #[]); letGo old.toList.reverse; Builtin.List.listExtendWith (.ref s.heap.objs.size) (.ref z) .none) _ _ _
  refine wpAny_bind ?_
  unfold Builtin.List.listItems
  refine wpAny_bind (wpAny_seqItems hS rfl (wpAny_pure ?_))
  show wpAny _ A.in1.in1 (updateSeq s.heap.objs.size (fun _ => #[]) >>= fun _ => letGo (#[] : Array Value).toList.reverse >>= fun _ => Builtin.List.listExtendWith (.ref s.heap.objs.size) (.ref z) .none) _ _ _
  refine wpAny_bind (wpAny_updateSeq hS rfl ?_)
  have hS2 := Heap.get?_update_self (Obj.mapSeq (fun _ => (#[] : Array Value))) hS rfl
  refine wpAny_bind (wpAny_letGo ?_)
  unfold Builtin.List.listExtendWith
  have up : ∀ (h : Heap) (f : Obj → Obj), (∀ b o, s.heap.get? b = some o → h.get? b = some o) → ∀ b o, s.heap.get? b = some o → (h.update s.heap.objs.size f).get? b = some o := fun h f q b o e =>
    (Heap.get?_update_other _ _ (Ne.symm (Nat.ne_of_lt (Heap.lt_size e)))).trans (q b o e)
  have k1 : ∀ b o, s.heap.get? b = some o → (s.heap.push { cls := .type "list", data := .seq #[] }).get? b = some o := fun b o e => Heap.get?_push_of_some _ e
  have k2 := up _ (Obj.mapSeq (fun _ => (#[] : Array Value))) k1
  have hz2 : IsZip ((s.heap.push { cls := .type "list", data := .seq #[] }).update s.heap.objs.size (Obj.mapSeq (fun _ => (#[] : Array Value)))) z TI TO .none := k2 _ _ hz
  refine wpAny_bind (wpAny_typeOf (T := "zip") ⟨_, hz2, rfl⟩ ?_)
  have q1 : Builtin.List.listSameRef (.ref s.heap.objs.size) (.ref z) = false := by simp [Builtin.List.listSameRef, Nat.ne_of_gt O.z]
  have q2 : (Value.type "zip" == Value.type "list") = false := by decide
  have q3 : (Value.type "zip" == Value.type "tuple") = false := by decide
  simp only [q1, q2, q3, Bool.or_false, Bool.false_eq_true, if_false]
  refine wpAny_bind (wpAny_pyIter_zip hz2 ?_)
  refine wpAny_bind (wpAny_holding (z_hint ⟨_, hz2, rfl⟩ ?_))
  refine wpAny_ite_split (fun _ => ?_) (fun _ => wpAny_pure ⟨plainId_quiet PySem.F.plain_extend_loop _, codeAny_mono (key _ _ _ k2 hS2) fun r s' q => ?_⟩)
  · refine wpAny_bind (wpAny_rule ?_)
    refine wpAny_bind ?_
    show wpAny _ _ (updateSeq s.heap.objs.size (·.push .none) >>= fun _ => updateSeq s.heap.objs.size (·.pop)) _ _ _
    refine wpAny_bind (wpAny_updateSeq hS2 rfl ?_)
    have hS3 := Heap.get?_update_self (Obj.mapSeq (·.push Value.none)) hS2 rfl
    refine wpAny_updateSeq (hz := by seq_fits) hS3 rfl ?_
    have hS4 := Heap.get?_update_self (Obj.mapSeq (·.pop)) hS3 rfl
    refine wpAny_pure ⟨plainId_quiet PySem.F.plain_extend_loop _, codeAny_mono (key _ _ _ (up _ _ (up _ _ k2)) hS4) fun r s' q => ?_⟩
    rcases r with e | f
    · exact q
    · obtain ⟨rfl, q⟩ := q
      exact ⟨rfl, q⟩
  · rcases r with e | f
    · exact q
    · obtain ⟨rfl, q⟩ := q
      exact ⟨rfl, q⟩
end
end ZipL
end

section
set_option Elab.async false
set_option linter.all false
set_option maxRecDepth 100000
set_option maxHeartbeats 4000000
namespace L2
open PySem PySem.Spec PyProof.Rows
/-- the pairs as, tracked as tuples -/
def adds (H : Hp) : List Addr → List (V × V) → Hp
  | a :: as, kv :: kvs => upd (adds H as kvs) a (.tup [kv.1, kv.2])
  | _, _ => H
theorem adds_off {H : Hp} : ∀ {as : List Addr} {kvs : List (V × V)} {c : Addr}, c ∉ as → adds H as kvs c = H c
  | [], _, c, _ => rfl
  | a :: as, [], c, _ => rfl
  | a :: as, kv :: kvs, c, h => by
    have h1 : c ≠ a := fun e => h (by rw [e]; exact List.mem_cons_self ..)
    show upd _ _ _ c = _
    rw [upd_ne h1]
    exact adds_off fun e => h (List.mem_cons_of_mem _ e)
theorem adds_on {H : Hp} : ∀ {as : List Addr} {kvs : List (V × V)}, as.Nodup → as.length = kvs.length → Paired (fun a kv => adds H as kvs a = some (.tup [kv.1, kv.2])) as kvs
  | [], [], _, _ => .nil
  | a :: as, kv :: kvs, nd, hl => by
    obtain ⟨n1, n2⟩ := List.nodup_cons.mp nd
    have ih := adds_on (H := H) n2 (Nat.succ.inj hl)
    refine .cons upd_same ?_
    have key : ∀ {bs : List Addr} {ls : List (V × V)}, (∀ b ∈ bs, b ≠ a) → Paired (fun b kv => adds H as kvs b = some (.tup [kv.1, kv.2])) bs ls → Paired (fun b kv2 => adds H (a :: as) (kv :: kvs) b = some (.tup [kv2.1, kv2.2])) bs ls := by
      intro bs ls hb hp
      induction hp with
      | nil => exact .nil
      | cons p q ih =>
        refine .cons ?_ (ih fun b hb' => hb b (List.mem_cons_of_mem _ hb'))
        show upd _ _ _ _ = _
        rw [upd_ne (hb _ (List.mem_cons_self ..))]
        exact p
    exact key (fun b hb e => n1 (by rw [← e]; exact hb)) ih
  | [], _ :: _, _, h => by cases h
  | _ :: _, [], _, h => by cases h
/-- list(zip(a, b)) -/
def tLz (K : PySem.W.Frag) (ta : TA) : TE := fun σ H Q => ta σ H fun vs H1 => ∃ a b xs ys, vs = [.ref a, .ref b] ∧ SqL K H1 a xs ∧ SqL K H1 b ys ∧
  ∀ p as H2, H1 p = none → (∀ c o, H1 c = some o → H2 c = some o) → H2 p = some (.lst (as.map V.ref)) → Paired (fun (a : Addr) (kv : V × V) => H1 a = none ∧ H2 a = some (.tup [kv.1, kv.2])) as (xs.zip ys) → Q (.ref p) H2
theorem vals_getD {us : List V} {its : List Value} {i : Nat} {v : Value} (r : Vals us its) (h : its[i]? = some v) : ∃ u, us[i]? = some u ∧ RelV u v := vals_at r h
theorem paired_and {α β : Type} {R S : α → β → Prop} : ∀ {l : List α} {m : List β}, Paired R l m → Paired S l m → Paired (fun a b => R a b ∧ S a b) l m
  | _, _, .nil, .nil => .nil
  | _, _, .cons p q, .cons r t => .cons ⟨p, r⟩ (paired_and q t)
theorem paired_mk {α β : Type} {R : α → β → Prop} : ∀ {l : List α} {m : List β}, l.length = m.length → (∀ (j : Nat) a b, l[j]? = some a → m[j]? = some b → R a b) → Paired R l m
  | [], [], _, _ => .nil
  | a :: l, b :: m, hl, h => .cons (h 0 a b rfl rfl) (paired_mk (Nat.succ.inj hl) fun j x y hx hy => h (j + 1) x y (by simpa using hx) (by simpa using hy))
  | [], _ :: _, h, _ => by cases h
  | _ :: _, [], h, _ => by cases h
theorem paired_gets {α β : Type} {R : α → β → Prop} : ∀ {l : List α} {us : List β} {i : Nat} {a : α}, Paired R l us → l[i]? = some a → ∃ u, us[i]? = some u ∧ R a u
  | _, _, i, _, .nil, h => by simp at h
  | _, _, 0, a, .cons p q, h => by
    have : _ = a := Option.some.inj h
    subst this
    exact ⟨_, rfl, p⟩
  | _, _, i + 1, a, .cons p q, h => paired_gets (i := i) q (by simpa using h)
section
variable {X : Cx} {e e2 : Expr} {ta : TA} {p p2 q pos : Pos}
theorem pe_listzip (hg : Gl X "list") (hm : X.mg "list" = none) (hg2 : Gl X "zip") (hm2 : X.mg "zip" = none) (ha : PA X [e, e2] ta) (hc : X.calm = true := by rfl)
    (hs : starEach [e, e2] X.env = (false, eval e X.env) :: starEach [e2] X.env := by rfl) (hpl : (backTo q (starEach [e2] X.env)).any (·.1) = false := by rfl) :
    PE X (.Call (.Name "list" p) [.Call (.Name "zip" p2) [e, e2] [] q] [] pos) (tLz X.K ta) := by
  refine ⟨fun pins s σ H Q I h => ?_⟩
  refine Call_ (ld_blt I hg hm PyProof.Rows.boot_list ?_)
  refine PyProof.Rows.callWith_type1 (PyProof.Rows.args_cons ?_ rfl) rfl rfl
  refine Call_ (ld_blt I hg2 hm2 PyProof.Rows.boot_zip (PyProof.Rows.callWith_type1 (thn (ha.run q pins s σ H _ I h) fun us s1 ⟨vs, H1, I1, r1, q1⟩ => ?_) hs hpl))
  obtain ⟨a, b, xs, ys, ex, hqx, hqy, q⟩ := q1
  subst ex
  cases r1 with
  | cons r rr =>
    cases rr with
    | cons r' rr =>
      cases rr
      cases r
      cases r'
      obtain ⟨its, rv, p1, z1⟩ := I1.list hqx
      obtain ⟨its2, rv2, pl2, z2⟩ := I1.list hqy
      have la : a < s1.heap.objs.size := p1.lt
      have lb : b < s1.heap.objs.size := pl2.lt
      have hlx : its.length = xs.length := rv.length.symm
      have hly : its2.length = ys.length := rv2.length.symm
      refine call_zip_2 p1.isList pl2.isList fun h' hz hTI hTO h1 h2 hsz hk => ?_
      refine PyProof.Rows.args_nil ?_
      have I2 : Inv X pins σ H1 { s1 with heap := h' } := I1.kept (t' := s1.toks) hk
      have hl1 : h'.IsList a its.toArray := p1.isList.at fun o e => hk _ o e
      have hl2 : h'.IsList b its2.toArray := pl2.isList.at fun o e => hk _ o e
      refine ZipL.z_call (s := { s1 with heap := h' }) (I2.ok.hd hc) (PyProof.Rows.zipApart_new la lb) hz hTI ⟨_, _, hTO⟩ h1 h2 hl1 hl2 (Nat.le_trans (Nat.min_le_left _ _) (by rw [List.size_toArray, hlx]; exact z1)) fun h2' tk acc c as hk2 hS hlen hG hnd hacc => ?_
      have big : s1.heap.objs.size ≤ h'.objs.size := by omega
      have gt : ∀ x ∈ as, s1.heap.objs.size ≤ x := fun x hx => Nat.le_trans big (Nat.le_of_lt (hG.1 x hx))
      have na : ∀ x ∈ as, H1 x = none := fun x hx => I1.hok.fresh (gt x hx)
      have nS : H1 h'.objs.size = none := I1.hok.fresh big
      have nSa : h'.objs.size ∉ as := fun hm => Nat.lt_irrefl _ (hG.1 _ hm)
      have olds : ∀ b o, s1.heap.get? b = some o → h2'.get? b = some o := fun b o e => by
        have hb : b < s1.heap.objs.size := Heap.lt_size e
        exact hk2 b o (Nat.ne_of_lt (Nat.lt_of_lt_of_le hb (Nat.le_add_right _ _))) (Nat.ne_of_lt (Nat.lt_of_lt_of_le hb (Nat.le_add_right _ _))) (Nat.ne_of_lt hb) (Nat.ne_of_lt (Nat.lt_of_lt_of_le hb (Nat.le_add_right _ _))) (hk b o e)
      have hlz : as.length = (xs.zip ys).length := by
        rw [hlen, List.length_zip, List.size_toArray, List.size_toArray, hlx, hly]
      have on := adds_on (H := H1) hnd hlz
      let H2 : Hp := upd (adds H1 as (xs.zip ys)) h'.objs.size (.lst (as.map V.ref))
      have old2 : ∀ c o, H1 c = some o → H2 c = some o := fun c o e => by
        have n1 : c ≠ h'.objs.size := ne_of_none e nS
        have n2 : c ∉ as := fun hm => by
          rw [na c hm] at e
          cases e
        show upd _ _ _ c = _
        rw [upd_ne n1, adds_off n2]
        exact e
      have on2 : Paired (fun (x : Addr) (kv : V × V) => H1 x = none ∧ H2 x = some (.tup [kv.1, kv.2])) as (xs.zip ys) := by
        refine paired_mk hlz fun j x kv hx hkv => ⟨na x (List.mem_of_getElem? hx), ?_⟩
        obtain ⟨u, hu, hp⟩ := paired_gets on hx
        rw [hkv] at hu
        cases hu
        show upd _ _ _ x = _
        rw [upd_ne (fun e => nSa (by rw [← e]; exact List.mem_of_getElem? hx))]
        exact hp
      have pair : ∀ (j : Nat) x kv, as[j]? = some x → (xs.zip ys)[j]? = some kv → ObjOk X.prog X.w H2 h2' x (.tup [kv.1, kv.2]) := fun j x kv hx hkv => by
        obtain ⟨v1, v2, e1, e2, e3⟩ := hG.2 j x hx
        obtain ⟨h3, h4⟩ := List.getElem?_zip_eq_some.mp hkv
        have e1' : its[j]? = some v1 := by simpa using e1
        have e2' : its2[j]? = some v2 := by simpa using e2
        obtain ⟨u1, hu1, r1⟩ := vals_at rv e1'
        obtain ⟨u2, hu2, r2⟩ := vals_at rv2 e2'
        rw [h3] at hu1
        cases hu1
        rw [h4] at hu2
        cases hu2
        exact ⟨by show 2 ≤ sizeLine; decide, [v1, v2], .cons r1 (.cons r2 .nil), _, e3, rfl, _, rfl⟩
      have hok : HOk X.prog X.w H2 h2' := fun c o e => by
        by_cases hcS : c = h'.objs.size
        · subst hcS
          have e : upd (adds H1 as (xs.zip ys)) h'.objs.size (.lst (as.map V.ref)) h'.objs.size = some o := e
          rw [upd_same] at e
          cases e
          refine ⟨?_, as.map Value.ref, c, ?_, ?_⟩
          · rw [List.length_map, hlz, List.length_zip]
            exact Nat.le_trans (Nat.min_le_left _ _) z1
          · have : ∀ l : List Addr, Vals (l.map V.ref) (l.map Value.ref) := by
              intro l
              induction l with
              | nil => exact .nil
              | cons x l ih => exact .cons rfl ih
            exact this as
          · rw [← hacc, Array.toArray_toList]
            exact hS
        · have e : upd (adds H1 as (xs.zip ys)) h'.objs.size (.lst (as.map V.ref)) c = some o := e
          rw [upd_ne hcS] at e
          by_cases hca : c ∈ as
          · obtain ⟨j, hj⟩ := List.mem_iff_getElem?.mp hca
            obtain ⟨kv, hkv, hp⟩ := paired_gets on hj
            rw [e] at hp
            cases hp
            exact pair j c kv hj hkv
          · rw [adds_off hca] at e
            exact (I1.hok c o e).stay (fun b v _ z => olds b v z) (fun b z => old2 b _ z) (fun b _ z => old2 b _ z)
      have U : Un X.fs [] H1 H2 s1.heap h2' := {
        keep := fun b o z _ _ _ => olds b o z
        slot := fun b o z _ _ _ => ⟨o.slots, olds b o z⟩
        free := fun b o z n _ => by
          have hb : b < s1.heap.objs.size := Heap.lt_size z
          show upd _ _ _ b = _
          rw [upd_ne (Nat.ne_of_lt (Nat.lt_of_lt_of_le hb big)), adds_off fun hm => Nat.lt_irrefl _ (Nat.lt_of_lt_of_le hb (gt b hm))]
          exact n
        there := fun b o z _ => ⟨o, olds b o z⟩
        tups := fun b _ z => old2 b _ z
        frzs := fun b _ _ z => old2 b _ z
        tbls := fun b _ z => ⟨#[], by rw [old2 b _ z]; simp⟩ }
      exact ⟨.ref h'.objs.size, H2, I1.un (t' := tk) U hok, rfl, q _ as H2 nS old2 upd_same on2⟩
end
/-! ### xs[::2], xs[1::2] -/
def every2 {α : Type} : List α → List α
  | [] => []
  | [x] => [x]
  | x :: _ :: r => x :: every2 r
theorem every2_len {α : Type} : ∀ l : List α, (every2 l).length = (l.length + 1) / 2
  | [] => by simp [every2]
  | [_] => by simp [every2]
  | _ :: _ :: r => by
    rw [every2]
    show (every2 r).length + 1 = (r.length + 1 + 1 + 1) / 2
    rw [every2_len r]
    omega
theorem fm_congr {α β : Type} {f g : α → Option β} : ∀ {l : List α}, (∀ a ∈ l, f a = g a) → l.filterMap f = l.filterMap g
  | [], _ => rfl
  | a :: l, h => by
    rw [List.filterMap_cons, List.filterMap_cons, h a (List.mem_cons_self ..), fm_congr fun b hb => h b (List.mem_cons_of_mem _ hb)]
theorem pick2 {α : Type} : ∀ l : List α, ((List.range ((l.length + 1) / 2)).filterMap fun k => l[2 * k]?) = every2 l
  | [] => by simp [every2]
  | [_] => by simp [every2]
  | x :: y :: r => by
    have e : ((x :: y :: r).length + 1) / 2 = (r.length + 1) / 2 + 1 := by
      show (r.length + 1 + 1 + 1) / 2 = _
      omega
    rw [e, List.range_succ_eq_map, List.filterMap_cons, List.filterMap_map, every2, ← pick2 r]
    show x :: _ = x :: _
    congr 1
theorem vals_every2 : ∀ {xs : List V} {its : List Value}, Vals xs its → Vals (every2 xs) (every2 its)
  | _, _, .nil => .nil
  | _, _, .cons p .nil => .cons p .nil
  | _, _, .cons p (.cons _ t) => .cons p (vals_every2 t)
/-- xs[lo::2], lo none or 1 -/
def tS2 (K : PySem.W.Frag) (te : TE) (tl : TO) : TE := fun σ H Q => te σ H fun x H1 => tl σ H1 fun lo H2 => ∃ a xs, x = .ref a ∧ SqL K H2 a xs ∧ (lo = none ∨ lo = some 1) ∧ ∀ p, H2 p = none → Q (.ref p) (upd H2 p (.lst (every2 (xs.drop (lo.getD 0).toNat))))
theorem slice2 (its : List Value) (lo : Option Int) (h : lo = none ∨ lo = some 1) : slicePick its.toArray lo none (some 2) = (every2 (its.drop (lo.getD 0).toNat)).toArray := by
  unfold slicePick
  congr 1
  have hb : sliceBounds lo none (some 2) its.toArray.size = (((min (lo.getD 0).toNat its.length : Nat) : Int), (its.length : Int), 2) := by
    unfold sliceBounds
    rcases h with rfl | rfl
    · simp
    · simp
      omega
  rw [hb]
  show (sliceRange ((min (lo.getD 0).toNat its.length : Nat) : Int) (its.length : Int) 2).filterMap _ = _
  generalize hk : (lo.getD 0).toNat = k
  unfold sliceRange
  rw [if_pos (by decide)]
  by_cases hlt : k < its.length
  · have e1 : min k its.length = k := Nat.min_eq_left (Nat.le_of_lt hlt)
    rw [e1, if_pos (by omega)]
    have e2 : (((its.length : Int) - (k : Int) + 2 - 1) / 2).toNat = ((its.drop k).length + 1) / 2 := by
      rw [List.length_drop]
      omega
    show (List.map _ (List.range (((its.length : Int) - (k : Int) + 2 - 1) / 2).toNat)).filterMap _ = _
    rw [e2, List.filterMap_map, ← pick2 (its.drop k)]
    refine fm_congr fun j _ => ?_
    show its.toArray[((k : Int) + 2 * (j : Int)).toNat]? = _
    rw [List.getElem?_drop, List.getElem?_toArray]
    congr 1
  · have e1 : min k its.length = its.length := Nat.min_eq_right (Nat.le_of_not_lt hlt)
    rw [e1, if_neg (by omega), List.drop_eq_nil_of_le (Nat.le_of_not_lt hlt)]
    rfl
section
variable {X : Cx} {e : Expr} {te : TE} {lo : Option Expr} {tl : TO} {p p2 pos : Pos} {j : Nat}
theorem pe_slice2 (he : PE X e te) (hl : PO X lo tl) : PE X (.Subscript e (.Slice lo none (some (.Constant (.int 2) j p)) p2) pos) (tS2 X.K te tl) := by
  refine ⟨fun pins s σ H Q I h => ?_⟩
  refine Subscript_ (thn (he.run pins s σ H _ I h) fun v s1 ⟨x, H1, I1, r1, q1⟩ => ?_)
  have hst : PO X (some (.Constant (.int 2) j p)) (tPart (tC (.int 2))) := po_some pe_int
  refine wpAny_Slice (thn (hl.run pins s1 σ H1 _ I1 q1) fun vl s2 ⟨l, H2, I2, pl, a, xs, ex, hx, hlo, q⟩ => ?_)
  subst ex
  cases r1
  refine thn (po_none.run pins s2 σ H2 (fun o H3 => o = none ∧ H3 = H2) I2 ⟨rfl, rfl⟩) fun vu s3 ⟨u, H3, I3, pu, eu, e3⟩ => ?_
  subst eu e3
  refine thn (hst.run pins s3 σ H3 (fun o H4 => o = some 2 ∧ H4 = H3) I3 ⟨2, rfl, rfl, rfl⟩) fun vs s4 ⟨o, H4, I4, ps, eo, e4⟩ => ?_
  subst eo e4
  have I5 : Inv X pins σ H4 { s4 with heap := s4.heap.push { cls := .type "slice", data := .fields #[vl, vu, vs] } } := I4.kept (t' := s4.toks) fun b ob q => Heap.get?_push_of_some _ q
  obtain ⟨its, r, ht, hz⟩ := I5.list hx
  have hlen := r.length
  show wpAny (model X.prog X.w) X.A (subscriptTail e (.Slice lo none (some (.Constant (.int 2) j p)) p2) (.ref a) (.ref s4.heap.objs.size)) (EP X pins σ Q) X.xe { s4 with heap := s4.heap.push { cls := .type "slice", data := .fields #[vl, vu, vs] } }
  refine tail_any (ops := [.ref a, .ref s4.heap.objs.size]) ht.isList.typeIs (PySem.slot_list_getitem.lookup) ?_ (by with_unfolding_all rfl)
  refine wpAny_getItem_list_slice ht.isList (Heap.IsSliceOf.new _ vl vu vs) pl pu ps (by decide) ?_ (by rw [List.size_toArray]; omega)
  rw [slice2 its l hlo]
  refine ⟨.ref _, _, I5.laid (t' := s4.toks) (o := .lst (every2 (xs.drop (l.getD 0).toNat))) (fun b ob q => Heap.get?_push_of_some _ q) (Nat.le_refl _) ?_, rfl, q _ (I5.hok.fresh (Nat.le_refl _))⟩
  exact ⟨by rw [every2_len, List.length_drop]; omega, _, 0, vals_every2 (r.drop _), Heap.get?_push_size _ rfl⟩
end
end L2
end

section
set_option Elab.async false
set_option linter.all false
set_option maxRecDepth 100000
set_option maxHeartbeats 4000000
namespace G
open PySem PySem.Spec PyProof.Rows L2
abbrev zPr (x : Int × Int) : Rp := zT [zI x.1, zI x.2]
def kvOf (x : Int × Int) : Key × V := (.inl x.1, .int x.2)
theorem dict_look : ∀ (prs : List (Int × Int)) (acc : List (Key × V)) (n : Int), (prs.map (·.1)).Nodup → valV (mergeK acc (prs.map kvOf)) (.inl n : Key) = (match prs.find? (fun p => p.1 == n) with
    | some p => some (V.int p.2)
    | none => valV acc (.inl n : Key))
  | [], acc, n, _ => rfl
  | p :: r, acc, n, nd => by
    obtain ⟨n1, n2⟩ := List.nodup_cons.mp (show (p.1 :: r.map (·.1)).Nodup from nd)
    have ih := dict_look r (putK acc (.inl p.1) (.int p.2)) n n2
    show valV (mergeK (putK acc (.inl p.1) (.int p.2)) (r.map kvOf)) _ = _
    rw [ih, List.find?_cons]
    by_cases h : p.1 = n
    · have hb : (p.1 == n) = true := beq_iff_eq.mpr h
      rw [hb]
      have hno : r.find? (fun p => p.1 == n) = none := by
        rw [List.find?_eq_none]
        intro q hq e
        have e : q.1 = n := beq_iff_eq.mp e
        exact n1 (by rw [h, ← e]; exact List.mem_map.mpr ⟨q, hq, rfl⟩)
      rw [hno]
      show valV (putK acc (.inl p.1) (.int p.2)) (.inl n) = some (.int p.2)
      rw [valV_put, if_pos (by rw [h])]
    · have hb : (p.1 == n) = false := beq_eq_false_iff_ne.mpr h
      rw [hb]
      show (match r.find? (fun p => p.1 == n) with
        | some p => some (V.int p.2)
        | none => valV (putK acc (.inl p.1) (.int p.2)) (.inl n)) = _
      cases r.find? (fun p => p.1 == n) with
      | some q => rfl
      | none =>
        show valV (putK acc (.inl p.1) (.int p.2)) (.inl n) = valV acc (.inl n)
        rw [valV_put, if_neg (fun e => h (by injection e with e; exact e.symm))]
def natP (x : Int × Int) : Nat × Nat := (x.1.toNat, x.2.toNat)
theorem cost_look : ∀ (prs : List (Int × Int)) (n : Nat), (∀ p ∈ prs, 0 ≤ p.1 ∧ 0 ≤ p.2) → (match prs.find? (fun p => p.1 == (n : Int)) with
    | some p => V.int p.2
    | none => .int 0) = .int (costAt (prs.map natP) n : Nat)
  | [], n, _ => rfl
  | p :: r, n, h => by
    have hp := h p (List.mem_cons_self ..)
    have ih := cost_look r n fun q hq => h q (List.mem_cons_of_mem _ hq)
    rw [List.find?_cons]
    unfold costAt
    rw [List.map_cons, List.find?_cons]
    by_cases e : p.1 = (n : Int)
    · have hb : (p.1 == (n : Int)) = true := beq_iff_eq.mpr e
      have hb2 : ((natP p).1 == n) = true := by
        rw [beq_iff_eq]
        show p.1.toNat = n
        omega
      rw [hb, hb2]
      show V.int p.2 = V.int (p.2.toNat : Nat)
      rw [Int.toNat_of_nonneg hp.2]
    · have hb : (p.1 == (n : Int)) = false := beq_eq_false_iff_ne.mpr e
      have hb2 : ((natP p).1 == n) = false := by
        rw [beq_eq_false_iff_ne]
        show p.1.toNat ≠ n
        omega
      rw [hb, hb2]
      exact ih
section
variable {P : Program} {w : World} {K : PySem.W.Frag} {mg : Str → Option Value} {base : Heap} {A : Adr}
section
variable {σ : L2.St} {F R : Hp} {ta te : TE} {tr : TA}
theorem drop_paired {α : Type} {R : α → V → Prop} : ∀ {l : List α} {us : List V} (k : Nat), Paired R l us → Paired R (l.drop k) (us.drop k)
  | _, _, 0, h => h
  | _, _, k + 1, .nil => .nil
  | _, _, k + 1, .cons _ t => drop_paired k t
theorem every2_map {α β : Type} (f : α → β) : ∀ l : List α, every2 (l.map f) = (every2 l).map f
  | [] => by simp [every2]
  | [_] => by simp [every2]
  | x :: y :: r => by
    rw [List.map_cons, List.map_cons, every2, every2, List.map_cons, every2_map f r]
theorem ev_s2 {l : List Int} {tl : TO} (lo : Option Int) (hlo : lo = none ∨ lo = some 1) (hl : ∀ σ H (Q : Option Int → Hp → Prop), Q lo H → tl σ H Q) (h : Ev ta σ F R (zL zI l)) : Ev (tS2 K ta tl) σ F R (zL zI (every2 (l.drop (lo.getD 0).toNat))) := fun s H1 h1 Q kk => h s H1 h1 _ fun v H2 F' u px => by
  obtain ⟨p, us, rfl, hp, lp, zp, pp⟩ := zL_at px
  rw [paired_ints pp] at hp
  have zp : l.length ≤ 20000 := zp
  refine hl σ H2 _ ⟨p, l.map V.int, rfl, SqL.of (u.fh _ _ hp), hlo, fun q hq => ?_⟩
  rw [← List.map_drop, every2_map]
  have u2 := Fut.new (o := HO.lst ((every2 (l.drop (lo.getD 0).toNat)).map V.int)) u.fh hq
  refine kk _ _ _ (u.trans u2) ⟨q, _, rfl, upd_same, paired_of_ints _, ?_⟩
  rw [every2_len, List.length_drop]
  show _ ≤ 20000
  omega
theorem ev_s2a {l : List Int} (h : Ev ta σ F R (zL zI l)) : Ev (tS2 K ta tNoPart) σ F R (zL zI (every2 l)) := ev_s2 none (.inl rfl) (fun _ _ _ q => q) h
theorem ev_s2b {l : List Int} (h : Ev ta σ F R (zL zI l)) : Ev (tS2 K ta (tPart (tC (.int 1)))) σ F R (zL zI (every2 (l.drop 1))) := ev_s2 (some 1) (.inr rfl) (fun _ _ _ q => ⟨1, rfl, q⟩) h
theorem ev_lz {l m : List Int} (h : EvA tr σ F R [zL zI l, zL zI m]) : Ev (tLz K tr) σ F R (zL zPr (l.zip m)) := fun s H1 h1 Q kk => h s H1 h1 _ fun vs H2 F' u pa => by
  obtain ⟨v1, v2, rfl, p1, p2⟩ := pa.two
  obtain ⟨p, us, rfl, hp, lp, zp, pp⟩ := zL_at p1
  obtain ⟨q, ws, rfl, hq, lq, zq, pq⟩ := zL_at p2
  rw [paired_ints pp] at hp
  rw [paired_ints pq] at hq
  refine ⟨p, q, _, _, rfl, SqL.of (u.fh _ _ hp), SqL.of (u.fh _ _ hq), fun r as H3 nr hk hr hpa => ?_⟩
  have ez : (l.map V.int).zip (m.map V.int) = (l.zip m).map fun x => (V.int x.1, V.int x.2) := by
    rw [List.zip_map]
    rfl
  rw [ez] at hpa
  have na : ∀ a ∈ as, H2 a = none := fun a ha => by
    obtain ⟨j, hj⟩ := List.mem_iff_getElem?.mp ha
    obtain ⟨_, _, h1, _⟩ := paired_gets hpa hj
    exact h1
  let F2 : Hp := fun b => match F' b with
    | some o => some o
    | none => if b = r ∨ b ∈ as then H3 b else none
  have e1 : ∀ b o, F' b = some o → F2 b = some o := fun b o e => by
    show (match F' b with
      | some o => some o
      | none => if b = r ∨ b ∈ as then H3 b else none) = _
    rw [e]
  have e2 : ∀ b, F' b = none → (b = r ∨ b ∈ as) → F2 b = H3 b := fun b e hb => by
    show (match F' b with
      | some o => some o
      | none => if b = r ∨ b ∈ as then H3 b else none) = _
    rw [e]
    exact if_pos hb
  have e3 : ∀ b, F' b = none → ¬ (b = r ∨ b ∈ as) → F2 b = none := fun b e hb => by
    show (match F' b with
      | some o => some o
      | none => if b = r ∨ b ∈ as then H3 b else none) = _
    rw [e]
    exact if_neg hb
  have fn : ∀ b, (b = r ∨ b ∈ as) → F' b = none := fun b hb => u.fh.free (by
    rcases hb with rfl | hb
    · exact nr
    · exact na b hb)
  have u2 : Fut F' F2 H2 H3 := by
    refine ⟨e1, fun b o e => ?_, hk, fun b hb n => ?_⟩
    · by_cases hn : F' b = none
      · by_cases hm : b = r ∨ b ∈ as
        · rw [e2 b hn hm] at e
          exact e
        · rw [e3 b hn hm] at e
          cases e
      · cases q : F' b with
        | none => exact absurd q hn
        | some o' =>
          rw [e1 b o' q] at e
          cases e
          exact hk _ _ (u.fh _ _ q)
    · refine e3 b n fun hm => ?_
      rcases hm with rfl | hm
      · exact hb nr
      · exact hb (na b hm)
  refine kk _ _ _ (u.trans u2) ⟨r, as.map V.ref, rfl, (by rw [e2 r (fn r (.inl rfl)) (.inl rfl)]; exact hr), ?_, ?_⟩
  · have key : ∀ {as' : List Addr} {L : List (Int × Int)}, (∀ a ∈ as', a ∈ as) → Paired (fun (a : Addr) (kv : V × V) => H2 a = none ∧ H3 a = some (.tup [kv.1, kv.2])) as' (L.map fun x => (V.int x.1, V.int x.2)) → Paired (fun a u => zPr a u F2) L (as'.map V.ref) := by
      intro as' L
      induction L generalizing as' with
      | nil =>
        intro _ h
        cases h
        exact .nil
      | cons x L ih =>
        intro hm h
        cases h with
        | cons p q =>
          rename_i a as''
          refine .cons ⟨a, _, rfl, ?_, .cons rfl (.cons rfl .nil)⟩ (ih (fun b hb => hm b (List.mem_cons_of_mem _ hb)) q)
          rw [e2 a (fn a (.inr (hm a (List.mem_cons_self ..)))) (.inr (hm a (List.mem_cons_self ..)))]
          exact p.2
    exact key (fun _ h => h) hpa
  · rw [List.length_zip]
    exact Nat.le_trans (Nat.min_le_left _ _) zp
/-- dict(pairs) -/
theorem ev_dictP {prs : List (Int × Int)} (nd : (prs.map (·.1)).Nodup) (hnn : ∀ p ∈ prs, 0 ≤ p.1 ∧ 0 ≤ p.2) (h : EvA tr σ F R [zL zPr prs]) :
    Ev (tCB (fun xs H Q => ∃ (a : Addr) (ps : List Addr) (kvs : List (Key × V)), xs = [.ref a] ∧ SqL K H a (ps.map V.ref) ∧ Paired (fun p kv => SqT K H p [kV kv.1, kv.2]) ps kvs ∧ ∀ p, H p = none → Q (.ref p) (upd H p (.dK (mergeK [] kvs)))) tr) σ F R (zCst (prs.map natP)) := fun s H1 h1 Q kk => one_arg h s H1 h1 _ fun v H2 F' u px => by
  obtain ⟨p, us, rfl, hp, lp, zp, pp⟩ := zL_at px
  have key : ∀ {L : List (Int × Int)} {us : List V}, Paired (fun a u => zPr a u F') L us → ∃ ps : List Addr, us = ps.map V.ref ∧ Paired (fun p kv => SqT K H2 p [kV kv.1, kv.2]) ps (L.map kvOf) := by
    intro L us hp
    induction hp with
    | nil => exact ⟨[], rfl, .nil⟩
    | cons p q ih =>
      obtain ⟨ps, e, hps⟩ := ih
      obtain ⟨a, vs, rfl, ha, q2⟩ := p
      obtain ⟨v1, v2, rfl, r1, r2⟩ := q2.two
      have r1 : v1 = .int _ := r1
      have r2 : v2 = .int _ := r2
      subst r1 r2
      exact ⟨a :: ps, by rw [e]; rfl, .cons (SqT.of (u.fh _ _ ha)) hps⟩
  obtain ⟨ps, rfl, hps⟩ := key pp
  refine ⟨p, ps, _, rfl, SqL.of (u.fh _ _ hp), hps, fun q hq => ?_⟩
  have u2 := Fut.new (o := HO.dK (mergeK [] (prs.map kvOf))) u.fh hq
  refine kk _ _ _ (u.trans u2) ⟨q, _, rfl, upd_same, fun n => ?_⟩
  rw [dict_look prs [] n nd, ← cost_look prs n hnn]
  cases prs.find? (fun p => p.1 == (n : Int)) <;> rfl
end
def costsOf (l : List Int) : List (Nat × Nat) := ((every2 l).zip (every2 (l.drop 1))).map natP
def cheapO (s : S) (l : List Int) : Ans := if (decide ((l.length : Int) % 2 = 0) && numB (every2 (l.drop 1))) = false then .error (-2) else if thereB s (every2 l) = false then .error (-2)
  else .ok (s, ((Vbwbad.costOf (costsOf l) (Vbwbad.cheapest s (costsOf l)) : Nat) : Int) :: Vbwbad.listed (Vbwbad.cheapest s (costsOf l)))
def sp_Desk_cheapest (K : PySem.W.Frag) (A : Adr) : Sp := dSp A (α := List Int) (fun x => [zL zI x.2.2]) (fun x => x.2.2.length ≤ 4000) (fun x => cheapO x.2.1 x.2.2)
theorem subs_in {l : List Nat} : ∀ {p : List Nat}, p ∈ allP l → p.length ≤ l.length := fun {p} h => subs_item ((subs_perm l).mem_iff.mpr h)
theorem best_in (c : List Nat → Nat) : ∀ (l : List (List Nat)), l ≠ [] → bestP c l ∈ l
  | [], h => absurd rfl h
  | x :: r, _ => by
    have key : ∀ (r : List (List Nat)) (x : List Nat), r.foldl (fun a y => if ltC c y a = true then y else a) x ∈ x :: r := by
      intro r
      induction r with
      | nil => exact fun x => List.mem_singleton.mpr rfl
      | cons y r ih =>
        intro x
        rw [List.foldl_cons]
        have := ih (if ltC c y x = true then y else x)
        rcases List.mem_cons.mp this with e | e
        · rw [e]
          split
          · exact List.mem_cons_of_mem _ (List.mem_cons_self ..)
          · exact List.mem_cons_self ..
        · exact List.mem_cons_of_mem _ (List.mem_cons_of_mem _ e)
    exact key r x
theorem cheap_len {s : S} (wf : WF s) (cs : List (Nat × Nat)) : (Vbwbad.cheapest s cs).length ≤ 10 := by
  rw [cheapest_eq wf]
  have h := best_in (Vbwbad.costOf cs) (victimsP s) (victims_ne s)
  have h2 := subs_in (List.mem_filter.mp h).1
  rw [sortedIds_len] at h2
  exact Nat.le_trans h2 wf.few
theorem ok_Desk_cheapest (T : TxD K mg A) : MF P w K mg base (L2.CX P w) 9 A.D "cheapest" ["self", "row"] (sp_Desk_cheapest K A) :=
  T.f_Desk_cheapest.mf fun f fd Fn => body_okD Fn sc_Desk_cheapest (fun _ => rfl) fun cdv B0 outer s H E hr => by
    refine ⟨_, (pss_cons (ps_expr (pe_callF (ok_want T) (hr.mono (by decide)) (passes_call (takes_of rfl rfl rfl rfl) (fun _ _ _ _ h => h)) (pa_cons (pe_and (pe_cmpR op_eq (pe_op op_mod (pe_callB call_len_seq rfl T.b_len (by decide +kernel) (pa_cons (pv 1) pa_nil)) pe_int) pe_int (nomark _)) (pe_one (pe_callF (ok_are_numbers T) (hr.mono (by decide)) pass0 (pa_cons (pe_slice2 (pv 1) (po_some pe_int)) pa_nil)))) (pa_cons (pe_glob (v := .int (-2)) rfl T.c_BAD_ROW ⟨_, rfl⟩) pa_nil))))
      (pss_cons (ps_expr (pe_methF (ok_Desk_want_batches T) (hr.mono (by decide)) (passes_call (takes_of rfl rfl rfl rfl) (fun _ _ _ _ h => h)) (pv 0) (pa_cons (pe_slice2 (pv 1) po_none) pa_nil)))
      (pss_cons (ps_asg (pe_methF (ok_House_cheapest T.toTxt) (hr.mono (by decide)) pass0 (pe_fld (pv 0) rfl) (pa_cons (pe_callTy (call_dictP rfl) rfl T.b_dict (by decide +kernel) (pa_cons (pe_listzip rfl T.b_list rfl T.b_zip (pa_cons (pe_slice2 (pv 1) po_none) (pa_cons (pe_slice2 (pv 1) (po_some pe_int)) pa_nil))) pa_nil)) pa_nil)) (pg_tup rfl (pgs_cons (pg_name (i := 2) sc_Desk_cheapest.nd rfl (Or.inl rfl)) (pgs_cons (pg_name (i := 3) sc_Desk_cheapest.nd rfl (Or.inl rfl)) pgs_nil))))
      (pss_one (ps_ret (pe_op op_cat (pe_lst (pa_cons (pv 2) pa_nil)) (pe_callF (ok_listed T) (hr.mono (by decide)) pass0 (pa_cons (pv 3) pa_nil)))))))), fun d st l F vs Q sF av hD wf pr k1 k2 => ?_⟩
    obtain ⟨u, ul, rfl, p0, p1⟩ := av.two
    obtain rfl : u = .ref d := p0
    obtain ⟨a, hD⟩ := hD
    have p1 : zL zI l ul F := p1
    have hl : l.length ≤ 4000 := pr
    have ea : ∀ R, Ev (tS2 K (tVar 1) tNoPart) [some (.ref d), some ul, none, none] F R (zL zI (every2 l)) := fun R => ev_s2a (ev_var rfl p1)
    have eb : ∀ R, Ev (tS2 K (tVar 1) (tPart (tC (.int 1)))) [some (.ref d), some ul, none, none] F R (zL zI (every2 (l.drop 1))) := fun R => ev_s2b (ev_var rfl p1)
    refine q_want sF (b := decide ((l.length : Int) % 2 = 0) && numB (every2 (l.drop 1))) (n := -2) (ev_andV (ev_eqI (ev_mod (by decide) (ev_len (ea_cons (ev_var rfl p1) ea_nil)) ev_int) ev_int) fun _ => ev_call (every2 (l.drop 1)) pr0 (ea_cons (eb _) ea_nil)) (ev_c rfl) (fun h => k1 _ ?_) fun h H1 f1 => ?_
    · show cheapO st l = _
      unfold cheapO
      rw [if_pos h]
    · have hn1 : ¬ (decide ((l.length : Int) % 2 = 0) && numB (every2 (l.drop 1))) = false := by
        rw [h]
        exact fun z => by cases z
      rw [Bool.and_eq_true, decide_eq_true_eq] at h
      have hle : (every2 l).length = (every2 (l.drop 1)).length := by
        rw [every2_len, every2_len, List.length_drop]
        omega
      refine q_wb f1.fh ⟨a, hD.fut f1⟩ wf (l := every2 l) (by rw [every2_len]; omega) (ev_var rfl zAt_rfl) (ea _) (fun h2 => (k1 _ ?_).later f1) fun h2 H2 f2 => ?_
      · show cheapO st l = _
        unfold cheapO
        rw [if_neg hn1, if_pos h2]
      · have hn2 : ¬ thereB st (every2 l) = false := by
          rw [h2]
          exact fun z => by cases z
        have hnd : (every2 l).Nodup := by
          unfold thereB at h2
          rw [Bool.and_eq_true] at h2
          exact of_decide_eq_true h2.2
        obtain ⟨hnn, hth, _⟩ := there_is h2
        have fu2 := f1.trans f2
        have hD2 := hD.fut fu2
        have emap : ((every2 l).zip (every2 (l.drop 1))).map (·.1) = every2 l := List.map_fst_zip (Nat.le_of_eq hle)
        have e1 := ev_dictP (K := K) (prs := (every2 l).zip (every2 (l.drop 1))) (by rw [emap]; exact hnd) (fun p hp => ⟨hnn _ (List.of_mem_zip hp).1, (numB_nn h.2 _ (List.of_mem_zip hp).2).1⟩) (ea_cons (ev_lz (K := K) (ea_cons (ea H2) (ea_cons (eb H2) ea_nil))) ea_nil)
        refine q_asg2 (P1 := zN (Vbwbad.costOf (costsOf l) (Vbwbad.cheapest st (costsOf l)))) (P2 := zL zN (Vbwbad.cheapest st (costsOf l))) f2.fh (ev_hm (res := fun x : Addr × S × List (Nat × Nat) => zT [zN (Vbwbad.costOf x.2.2 (Vbwbad.cheapest x.2.1 x.2.2)), zL zN (Vbwbad.cheapest x.2.1 x.2.2)]) (costsOf l) hD2.2.2 wf trivial (by decide +kernel) (ev_house T hD2 (ev_var rfl zAt_rfl)) (ea_cons e1 ea_nil)) fun v1 v2 H3 F3 f3 q1 q2 => ?_
        have hcl := cheap_len wf (costsOf l)
        refine s_ret f3.fh (ev_toldL (E := E0) (l := Vbwbad.cheapest st (costsOf l)) (n := ((Vbwbad.costOf (costsOf l) (Vbwbad.cheapest st (costsOf l)) : Nat) : Int)) (by omega) (ev_var rfl q1) (ev_var rfl q2)) fun v H4 F4 f4 pv => k2 st _ ?_ v H4 F4 (.of ((fu2.trans f3).trans f4)) (DeskAt.fut ⟨a, hD⟩ ((fu2.trans f3).trans f4)) pv
        show cheapO st l = _
        unfold cheapO
        rw [if_neg hn1, if_neg hn2]
end
end G
end

section
set_option Elab.async false
set_option linter.all false
set_option maxRecDepth 100000
set_option maxHeartbeats 4000000
namespace G
open PySem PySem.Spec PyProof.Rows L2
section
variable {P : Program} {w : World} {K : PySem.W.Frag} {mg : Str → Option Value} {base : Heap} {A : Adr}
/-- what is to come of an answer -/
def Kn (A : Adr) (E : XK) (d : Addr) (F H : Hp) (Q : VK) (o : Ans) : Prop := (∀ n, o = .error n → Rf A E F H n) ∧ ∀ s' l, o = .ok (s', l) → ∀ v H2 F', FutD F F' H H2 → DeskAt A d s' F' H2 → zL zI l v F' → Q v H2
theorem Kn.later {E : XK} {d : Addr} {F F1 H H1 : Hp} {Q : VK} {o : Ans} (k : Kn A E d F H Q o) (u : Fut F F1 H H1) : Kn A E d F1 H1 Q o := ⟨fun n h => (k.1 n h).later u, fun s' l h v H2 F' f => k.2 s' l h v H2 F' ((FutD.of u).trans f)⟩
section
variable {σ : L2.St} {F H R : Hp} {ta tl te : TE} {tr : TA} {E E2 : XK} {d a : Addr} {s : S} {D : Ends} {tz : TS} {Q : VK}
theorem s_dm {α : Type} {args : Addr × S × α → List Rp} {pre : Addr × S × α → Prop} {out : Addr × S × α → Ans} {m : Str} {o : Ans} (x : α) (sF : Same F H) (hD : DeskAt A d s F H) (wf : WF s) (hp : pre (d, s, x)) (hm : notIn m ["house"] = true) (ha : Ev ta σ F H (zAt d)) [MSs (args (d, s, x))] (ht : EvA tr σ F H (args (d, s, x)))
    (e : o = out (d, s, x)) (k : Kn A E d F H D.rt o) : tRet (tMeth A.D m (dSp A args pre out) [] E ta tr) D σ H :=
  r_dm x sF hD wf hp hm ha ht (fun n h => k.1 n (e.trans h)) fun s' l h => k.2 s' l (e.trans h)
/-- the same of one that doesn't refuse -/
theorem s_dm0 {α : Type} {args : Addr × S × α → List Rp} {pre : Addr × S × α → Prop} {out : Addr × S × α → Ans} {m : Str} {o : Ans} (x : α) (sF : Same F H) (hD : DeskAt A d s F H) (wf : WF s) (hp : pre (d, s, x)) (hm : notIn m ["house"] = true) (ha : Ev ta σ F H (zAt d)) [MSs (args (d, s, x))] (ht : EvA tr σ F H (args (d, s, x)))
    (e : o = out (d, s, x)) (ne : ∀ n, out (d, s, x) ≠ .error n) (k : Kn A E d F H D.rt o) : tRet (tMeth A.D m (dSp A args pre out) [] E2 ta tr) D σ H :=
  r_dm x sF hD wf hp hm ha ht (fun n h => absurd h (ne n)) fun s' l h => k.2 s' l (e.trans h)
theorem s_ans {l : List Int} {o : Ans} (sF : Same F H) (hD : DeskAt A d s F H) (h : Ev te σ F H (zL zI l)) (e : o = .ok (s, l)) (k : Kn A E d F H D.rt o) : tRet te D σ H :=
  s_ret sF h fun v H1 F1 f1 pv => k.2 s l e v H1 F1 (.of f1) (hD.fut f1) pv
theorem q_wh {w c : Int} {tu : TS} {o : Ans} (sF : Same F H) (hv : Ev ta σ F H (zI w)) (k : Kn A E d F H D.rt o) (h1 : w = c → ∀ H1, Fut F F H H1 → Kn A E d F H1 D.rt o → tu { D with nx := tz D } σ H1) (h2 : ¬ w = c → ∀ H1, Fut F F H H1 → Kn A E d F H1 D.rt o → tz D σ H1) :
    tSeq (tIfS (tTest (tOp rEq ta (tC (.int c)))) tu tNext) tz D σ H :=
  q_when sF (et_test (ev_eqI hv (ev_int (i := c)))) (fun h H1 f1 => h1 (of_decide_eq_true h) H1 f1 (k.later f1)) fun h H1 f1 => h2 (of_decide_eq_false h) H1 f1 (k.later f1)
end
theorem headD_at {α : Type} {l : List α} {x : α} (h : l ≠ []) : l[0]? = some (l.headD x) := by
  cases l with
  | nil => exact absurd rfl h
  | cons a l => rfl
def ofBatchO (s : S) (w : Int) (b : B) (ns : List Int) (rows : List (List Int)) : Ans := if w = 2 then askO s b (rows.headD []) else if w = 3 then giveO s b (rows.headD []) else if w = 4 then backO s b (rows.headD []) else if w = 5 then endO s b else if w = 6 then dropO s b else if w = 11 then couldO s b (rows.headD []) else roomO s b (ns.getD 1 0).toNat
abbrev zRows (l : List (List Int)) : Rp := zL (fun r : List Int => zL zI r) l
def sp_Desk_of_batch (K : PySem.W.Frag) (A : Adr) : Sp := dSp A (α := Int × B × List Int × List (List Int)) (fun x => [zI x.2.2.1, zBat A x.2.2.2.1, zL zI x.2.2.2.2.1, zRows x.2.2.2.2.2])
  (fun x => x.2.2.2.1 ∈ x.2.1.batches ∧ ((x.2.2.1 = 2 ∨ x.2.2.1 = 3 ∨ x.2.2.1 = 4 ∨ x.2.2.1 = 11) → x.2.2.2.2.2 ≠ []) ∧ ((¬ x.2.2.1 = 2 ∧ ¬ x.2.2.1 = 3 ∧ ¬ x.2.2.1 = 4 ∧ ¬ x.2.2.1 = 5 ∧ ¬ x.2.2.1 = 6 ∧ ¬ x.2.2.1 = 11) → ∃ j : Nat, x.2.2.2.2.1[1]? = some (j : Int) ∧ j < x.2.1.totals.length))
  (fun x => ofBatchO x.2.1 x.2.2.1 x.2.2.2.1 x.2.2.2.2.1 x.2.2.2.2.2)
theorem AllR.five {P1 P2 P3 P4 P5 : Rp} {vs : List V} {F : Hp} (h : AllR [P1, P2, P3, P4, P5] vs F) : ∃ a b c d e, vs = [a, b, c, d, e] ∧ P1 a F ∧ P2 b F ∧ P3 c F ∧ P4 d F ∧ P5 e F := by
  cases h with
  | cons p h =>
    obtain ⟨b, c, d, e, rfl, q, r, t, u⟩ := h.four
    exact ⟨_, b, c, d, e, rfl, p, q, r, t, u⟩
theorem ok_Desk_of_batch (T : TxD K mg A) : MF P w K mg base (L2.CX P w) 10 A.D "of_batch" ["self", "word", "batch", "numbers", "rows"] (sp_Desk_of_batch K A) :=
  T.f_Desk_of_batch.mf fun f fd Fn => body_okD Fn sc_Desk_of_batch (fun _ => rfl) fun cdv B0 outer s H E hr => by
    refine ⟨_, (pss_cons (ps_if (pt_cmpR op_eq (pv 1) pe_int (nomark _))
      (pss_one (ps_ret (pe_methF (ok_Desk_ask T) (hr.mono (by decide)) (passes_call (takes_of rfl rfl rfl rfl) (fun _ _ _ _ h => h)) (pv 0) (pa_cons (pv 2) (pa_cons (pe_ix ix_list (pv 4) pe_int (fun _ _ => rfl)) pa_nil)))))
      pss_nil)
      (pss_cons (ps_if (pt_cmpR op_eq (pv 1) pe_int (nomark _))
      (pss_one (ps_ret (pe_methF (ok_Desk_give T) (hr.mono (by decide)) (passes_call (takes_of rfl rfl rfl rfl) (fun _ _ _ _ h => h)) (pv 0) (pa_cons (pv 2) (pa_cons (pe_ix ix_list (pv 4) pe_int (fun _ _ => rfl)) pa_nil)))))
      pss_nil)
      (pss_cons (ps_if (pt_cmpR op_eq (pv 1) pe_int (nomark _))
      (pss_one (ps_ret (pe_methF (ok_Desk_back T) (hr.mono (by decide)) (passes_call (takes_of rfl rfl rfl rfl) (fun _ _ _ _ h => h)) (pv 0) (pa_cons (pv 2) (pa_cons (pe_ix ix_list (pv 4) pe_int (fun _ _ => rfl)) pa_nil)))))
      pss_nil)
      (pss_cons (ps_if (pt_cmpR op_eq (pv 1) pe_int (nomark _))
      (pss_one (ps_ret (pe_methF (ok_Desk_end T) (hr.mono (by decide)) pass0 (pv 0) (pa_cons (pv 2) pa_nil))))
      pss_nil)
      (pss_cons (ps_if (pt_cmpR op_eq (pv 1) pe_int (nomark _))
      (pss_one (ps_ret (pe_methF (ok_Desk_drop T) (hr.mono (by decide)) (passes_call (takes_of rfl rfl rfl rfl) (fun _ _ _ _ h => h)) (pv 0) (pa_cons (pv 2) pa_nil))))
      pss_nil)
      (pss_cons (ps_if (pt_cmpR op_eq (pv 1) pe_int (nomark _))
      (pss_one (ps_ret (pe_methF (ok_Desk_could T) (hr.mono (by decide)) (passes_call (takes_of rfl rfl rfl rfl) (fun _ _ _ _ h => h)) (pv 0) (pa_cons (pv 2) (pa_cons (pe_ix ix_list (pv 4) pe_int (fun _ _ => rfl)) pa_nil)))))
      pss_nil)
      (pss_one (ps_ret (pe_methF (ok_Desk_room T) (hr.mono (by decide)) (passes_call (takes_of rfl rfl rfl rfl) (fun _ _ _ _ h => h)) (pv 0) (pa_cons (pv 2) (pa_cons (pe_ix ix_list (pv 3) pe_int (fun _ _ => rfl)) pa_nil))))))))))), fun d st x F vs Q sF av hD wf pr k1 k2 => ?_⟩
    obtain ⟨wd, b, ns, rows⟩ := x
    obtain ⟨u, uw, ub, un, ur, rfl, p0, p1, p2, p3, p4⟩ := av.five
    obtain rfl : u = .ref d := p0
    obtain ⟨hb, hrows, hns⟩ := pr
    have hb : b ∈ st.batches := hb
    have hrows : (wd = 2 ∨ wd = 3 ∨ wd = 4 ∨ wd = 11) → rows ≠ [] := hrows
    have hns : (¬ wd = 2 ∧ ¬ wd = 3 ∧ ¬ wd = 4 ∧ ¬ wd = 5 ∧ ¬ wd = 6 ∧ ¬ wd = 11) → ∃ j : Nat, ns[1]? = some (j : Int) ∧ j < st.totals.length := hns
    have p4 : zRows rows ur F := p4
    have k : Kn A E d F H Q (ofBatchO st wd b ns rows) := ⟨k1, k2⟩
    have er : ∀ R, rows ≠ [] → Ev (tOp (rIxL K) (tVar 4) (tC (.int 0))) [some (.ref d), some uw, some ub, some un, some ur] F R (zL zI (rows.headD [])) := fun R h => ev_ix (f := fun r : List Int => zL zI r) (headD_at h) rfl (ev_var rfl p4) ev_int
    refine q_wh (c := 2) sF (ev_var rfl p1) k (fun h H1 f1 k => ?_) fun n2 H1 f1 k => ?_
    · exact s_dm (args := fun x : Addr × S × B × List Int => [zBat A x.2.2.1, zL zI x.2.2.2]) (pre := fun _ => True) (out := fun x => askO x.2.1 x.2.2.1 x.2.2.2) (b, rows.headD []) f1.fh (hD.fut f1) wf trivial (by decide +kernel) (ev_var rfl zAt_rfl) (ea_cons (ev_var rfl p2) (ea_cons (er _ (hrows (.inl h))) ea_nil)) (by unfold ofBatchO; rw [if_pos h]) k
    have hD := hD.fut f1
    refine q_wh (c := 3) f1.fh (ev_var rfl p1) k (fun h H2 f2 k => ?_) fun n3 H2 f2 k => ?_
    · exact s_dm (args := fun x : Addr × S × B × List Int => [zBat A x.2.2.1, zL zI x.2.2.2]) (pre := fun x => x.2.2.1 ∈ x.2.1.batches) (out := fun x => giveO x.2.1 x.2.2.1 x.2.2.2) (b, rows.headD []) f2.fh (hD.fut f2) wf hb (by decide +kernel) (ev_var rfl zAt_rfl) (ea_cons (ev_var rfl p2) (ea_cons (er _ (hrows (.inr (.inl h)))) ea_nil)) (by unfold ofBatchO; rw [if_neg n2, if_pos h]) k
    have hD := hD.fut f2
    refine q_wh (c := 4) f2.fh (ev_var rfl p1) k (fun h H3 f3 k => ?_) fun n4 H3 f3 k => ?_
    · exact s_dm (args := fun x : Addr × S × B × List Int => [zBat A x.2.2.1, zL zI x.2.2.2]) (pre := fun x => x.2.2.1 ∈ x.2.1.batches) (out := fun x => backO x.2.1 x.2.2.1 x.2.2.2) (b, rows.headD []) f3.fh (hD.fut f3) wf hb (by decide +kernel) (ev_var rfl zAt_rfl) (ea_cons (ev_var rfl p2) (ea_cons (er _ (hrows (.inr (.inr (.inl h))))) ea_nil)) (by unfold ofBatchO; rw [if_neg n2, if_neg n3, if_pos h]) k
    have hD := hD.fut f3
    refine q_wh (c := 5) f3.fh (ev_var rfl p1) k (fun h H4 f4 k => ?_) fun n5 H4 f4 k => ?_
    · exact s_dm0 (E2 := E0) (args := fun x : Addr × S × B => [zBat A x.2.2]) (pre := fun _ => True) (out := fun x => endO x.2.1 x.2.2) b f4.fh (hD.fut f4) wf trivial (by decide +kernel) (ev_var rfl zAt_rfl) (ea_cons (ev_var rfl p2) ea_nil) (by unfold ofBatchO; rw [if_neg n2, if_neg n3, if_neg n4, if_pos h]) (fun n z => by cases z) k
    have hD := hD.fut f4
    refine q_wh (c := 6) f4.fh (ev_var rfl p1) k (fun h H5 f5 k => ?_) fun n6 H5 f5 k => ?_
    · exact s_dm (args := fun x : Addr × S × B => [zBat A x.2.2]) (pre := fun _ => True) (out := fun x => dropO x.2.1 x.2.2) b f5.fh (hD.fut f5) wf trivial (by decide +kernel) (ev_var rfl zAt_rfl) (ea_cons (ev_var rfl p2) ea_nil) (by unfold ofBatchO; rw [if_neg n2, if_neg n3, if_neg n4, if_neg n5, if_pos h]) k
    have hD := hD.fut f5
    refine q_wh (c := 11) f5.fh (ev_var rfl p1) k (fun h H6 f6 k => ?_) fun n11 H6 f6 k => ?_
    · exact s_dm (args := fun x : Addr × S × B × List Int => [zBat A x.2.2.1, zL zI x.2.2.2]) (pre := fun _ => True) (out := fun x => couldO x.2.1 x.2.2.1 x.2.2.2) (b, rows.headD []) f6.fh (hD.fut f6) wf trivial (by decide +kernel) (ev_var rfl zAt_rfl) (ea_cons (ev_var rfl p2) (ea_cons (er _ (hrows (.inr (.inr (.inr h))))) ea_nil)) (by unfold ofBatchO; rw [if_neg n2, if_neg n3, if_neg n4, if_neg n5, if_neg n6, if_pos h]) k
    have hD := hD.fut f6
    obtain ⟨j, hj, hlt⟩ := hns ⟨n2, n3, n4, n5, n6, n11⟩
    have ej : (ns.getD 1 0).toNat = j := by
      rw [List.getD_eq_getElem?_getD, hj]
      exact Int.toNat_natCast j
    exact s_dm (args := fun x : Addr × S × B × Nat => [zBat A x.2.2.1, zN x.2.2.2]) (pre := fun x => x.2.2.2 < x.2.1.totals.length) (out := fun x => roomO x.2.1 x.2.2.1 x.2.2.2) (b, j) f6.fh hD wf hlt (by decide +kernel) (ev_var rfl zAt_rfl) (ea_cons (ev_var rfl p2) (ea_cons (ev_ix (f := zI) hj rfl (ev_var rfl p3) ev_int) ea_nil)) (by unfold ofBatchO; rw [if_neg n2, if_neg n3, if_neg n4, if_neg n5, if_neg n6, if_neg n11, ej]) k
def ofRowO (s : S) (w : Int) (ns : List Int) (rows : List (List Int)) : Ans := if w = 0 then beginO (rows.headD []) else if w = 1 then addO s (ns.headD 0).toNat rows else if w = 15 then cheapO s (rows.headD []) else if w = 18 then checkO s (rows.headD []) else blockO s (rows.headD [])
def sp_Desk_of_row (K : PySem.W.Frag) (A : Adr) : Sp := dSp A (α := Int × List Int × List (List Int)) (fun x => [zI x.2.2.1, zL zI x.2.2.2.1, zRows x.2.2.2.2])
  (fun x => (x.2.2.1 = 1 → ∃ i : Nat, x.2.2.2.1[0]? = some (i : Int)) ∧ (¬ x.2.2.1 = 1 → x.2.2.2.2 ≠ []) ∧ ∀ r ∈ x.2.2.2.2, r.length ≤ 4000) (fun x => ofRowO x.2.1 x.2.2.1 x.2.2.2.1 x.2.2.2.2)
theorem ok_Desk_of_row (T : TxD K mg A) : MF P w K mg base (L2.CX P w) 10 A.D "of_row" ["self", "word", "numbers", "rows"] (sp_Desk_of_row K A) :=
  T.f_Desk_of_row.mf fun f fd Fn => body_okD Fn sc_Desk_of_row (fun _ => rfl) fun cdv B0 outer s H E hr => by
    refine ⟨_, (pss_cons (ps_if (pt_cmpR op_eq (pv 1) pe_int (nomark _))
      (pss_one (ps_ret (pe_methF (ok_Desk_begin T) (hr.mono (by decide)) (passes_call (takes_of rfl rfl rfl rfl) (fun _ _ _ _ h => h)) (pv 0) (pa_cons (pe_ix ix_list (pv 3) pe_int (fun _ _ => rfl)) pa_nil))))
      pss_nil)
      (pss_cons (ps_if (pt_cmpR op_eq (pv 1) pe_int (nomark _))
      (pss_one (ps_ret (pe_methF (ok_Desk_add_batch T) (hr.mono (by decide)) (passes_call (takes_of rfl rfl rfl rfl) (fun _ _ _ _ h => h)) (pv 0) (pa_cons (pe_ix ix_list (pv 2) pe_int (fun _ _ => rfl)) (pa_cons (pv 3) pa_nil)))))
      pss_nil)
      (pss_cons (ps_if (pt_cmpR op_eq (pv 1) pe_int (nomark _))
      (pss_one (ps_ret (pe_methF (ok_Desk_cheapest T) (hr.mono (by decide)) (passes_call (takes_of rfl rfl rfl rfl) (fun _ _ _ _ h => h)) (pv 0) (pa_cons (pe_ix ix_list (pv 3) pe_int (fun _ _ => rfl)) pa_nil))))
      pss_nil)
      (pss_cons (ps_if (pt_cmpR op_eq (pv 1) pe_int (nomark _))
      (pss_one (ps_ret (pe_methF (ok_Desk_check T) (hr.mono (by decide)) (passes_call (takes_of rfl rfl rfl rfl) (fun _ _ _ _ h => h)) (pv 0) (pa_cons (pe_ix ix_list (pv 3) pe_int (fun _ _ => rfl)) pa_nil))))
      pss_nil)
      (pss_one (ps_ret (pe_methF (ok_Desk_blocks T) (hr.mono (by decide)) (passes_call (takes_of rfl rfl rfl rfl) (fun _ _ _ _ h => h)) (pv 0) (pa_cons (pe_ix ix_list (pv 3) pe_int (fun _ _ => rfl)) pa_nil)))))))), fun d st x F vs Q sF av hD wf pr k1 k2 => ?_⟩
    obtain ⟨wd, ns, rows⟩ := x
    obtain ⟨u, uw, un, ur, rfl, p0, p1, p3, p4⟩ := av.four
    obtain rfl : u = .ref d := p0
    obtain ⟨hns, hrows, hlen⟩ := pr
    have hns : wd = 1 → ∃ i : Nat, ns[0]? = some (i : Int) := hns
    have hrows : ¬ wd = 1 → rows ≠ [] := hrows
    have hlen : ∀ r ∈ rows, r.length ≤ 4000 := hlen
    have p4 : zRows rows ur F := p4
    have k : Kn A E d F H Q (ofRowO st wd ns rows) := ⟨k1, k2⟩
    have er : ∀ R, rows ≠ [] → Ev (tOp (rIxL K) (tVar 3) (tC (.int 0))) [some (.ref d), some uw, some un, some ur] F R (zL zI (rows.headD [])) := fun R h => ev_ix (f := fun r : List Int => zL zI r) (headD_at h) rfl (ev_var rfl p4) ev_int
    have hl0 : rows ≠ [] → (rows.headD []).length ≤ 4000 := fun h => hlen _ (List.mem_of_getElem? (headD_at h))
    refine q_wh (c := 0) sF (ev_var rfl p1) k (fun h H1 f1 k => ?_) fun n2 H1 f1 k => ?_
    · exact s_dm (args := fun x : Addr × S × List Int => [zL zI x.2.2]) (pre := fun _ => True) (out := fun x => beginO x.2.2) (rows.headD []) f1.fh (hD.fut f1) wf trivial (by decide +kernel) (ev_var rfl zAt_rfl) (ea_cons (er _ (hrows (fun z => absurd (h.symm.trans z) (by decide)))) ea_nil) (by unfold ofRowO; rw [if_pos h]) k
    have hD := hD.fut f1
    refine q_wh (c := 1) f1.fh (ev_var rfl p1) k (fun h H2 f2 k => ?_) fun n3 H2 f2 k => ?_
    · obtain ⟨i, hi⟩ := hns h
      have ei : (ns.headD 0).toNat = i := by
        cases ns with
        | nil => cases hi
        | cons a l =>
          have : a = (i : Int) := Option.some.inj hi
          rw [List.headD_cons, this]
          exact Int.toNat_natCast i
      exact s_dm (args := fun x : Addr × S × Nat × List (List Int) => [zN x.2.2.1, zL (zL zI) x.2.2.2]) (pre := fun _ => True) (out := fun x => addO x.2.1 x.2.2.1 x.2.2.2) (i, rows) f2.fh (hD.fut f2) wf trivial (by decide +kernel) (ev_var rfl zAt_rfl) (ea_cons (ev_ix (f := zI) hi rfl (ev_var rfl p3) ev_int) (ea_cons (ev_var rfl p4) ea_nil)) (by unfold ofRowO; rw [if_neg n2, if_pos h, ei]) k
    have hD := hD.fut f2
    have hne := hrows n3
    refine q_wh (c := 15) f2.fh (ev_var rfl p1) k (fun h H3 f3 k => ?_) fun n4 H3 f3 k => ?_
    · exact s_dm (args := fun x : Addr × S × List Int => [zL zI x.2.2]) (pre := fun x => x.2.2.length ≤ 4000) (out := fun x => cheapO x.2.1 x.2.2) (rows.headD []) f3.fh (hD.fut f3) wf (hl0 hne) (by decide +kernel) (ev_var rfl zAt_rfl) (ea_cons (er _ hne) ea_nil) (by unfold ofRowO; rw [if_neg n2, if_neg n3, if_pos h]) k
    have hD := hD.fut f3
    refine q_wh (c := 18) f3.fh (ev_var rfl p1) k (fun h H4 f4 k => ?_) fun n5 H4 f4 k => ?_
    · exact s_dm (args := fun x : Addr × S × List Int => [zL zI x.2.2]) (pre := fun x => x.2.2.length ≤ 4000) (out := fun x => checkO x.2.1 x.2.2) (rows.headD []) f4.fh (hD.fut f4) wf (hl0 hne) (by decide +kernel) (ev_var rfl zAt_rfl) (ea_cons (er _ hne) ea_nil) (by unfold ofRowO; rw [if_neg n2, if_neg n3, if_neg n4, if_pos h]) k
    have hD := hD.fut f4
    exact s_dm (args := fun x : Addr × S × List Int => [zL zI x.2.2]) (pre := fun x => x.2.2.length ≤ 4000) (out := fun x => blockO x.2.1 x.2.2) (rows.headD []) f4.fh hD wf (hl0 hne) (by decide +kernel) (ev_var rfl zAt_rfl) (ea_cons (er _ hne) ea_nil) (by unfold ofRowO; rw [if_neg n2, if_neg n3, if_neg n4, if_neg n5]) k
def askedO (s : S) (w : Int) (ns : List Int) : Ans := if w = 7 then copO s (ns.headD 0) (ns.getD 1 0) else if w = 8 then safeO s else if w = 9 then .ok (s, Vbwbad.listed (Vbwbad.ids (goAll (Vbwbad.free s) s.batches))) else if w = 10 then .ok (s, natL (Vbwbad.free s)) else if w = 13 then lackO s (ns.headD 0) else if w = 14 then .ok (s, Vbwbad.listed ((victimsP s).headD []))
  else if w = 16 then .ok (s, [((manyOf s : Nat) : Int)]) else if w = 17 then orderO s (ns.headD 0) else .ok (s, allL s)
def sp_Desk_asked (K : PySem.W.Frag) (A : Adr) : Sp := dSp A (α := Int × List Int) (fun x => [zI x.2.2.1, zL zI x.2.2.2]) (fun x => (x.2.2.1 = 7 → 2 ≤ x.2.2.2.length) ∧ ((x.2.2.1 = 13 ∨ x.2.2.1 = 17) → x.2.2.2 ≠ [])) (fun x => askedO x.2.1 x.2.2.1 x.2.2.2)
theorem ev_lsd {σ : L2.St} {F R : Hp} {tl : TE} {E : XK} {l : List Nat} (hl : l.length ≤ 1000) (h : Ev tl σ F R (zL zN l)) : Ev (tCall (sp_listed K A) [] E (tCons tl tNil)) σ F R (zL zI (Vbwbad.listed l)) := by
  have e : ((l.map fun n : Nat => (n : Int)).length : Int) :: (l.map fun n : Nat => (n : Int)) = Vbwbad.listed l := by
    rw [List.length_map]
    rfl
  rw [← e]
  exact ev_call (args := fun x : List Int => [zL zI x]) (pre := fun x _ _ => x.length < LB) (res := fun x => zL zI ((x.length : Int) :: x)) (l.map fun n : Nat => (n : Int)) (fun _ _ _ _ _ _ => by show (l.map fun n : Nat => (n : Int)).length < 20000; rw [List.length_map]; omega) (ea_cons (h.imp fun v F' _ p => zN_int p) ea_nil)
theorem ok_Desk_asked (T : TxD K mg A) : MF P w K mg base (L2.CX P w) 20 A.D "asked" ["self", "word", "numbers"] (sp_Desk_asked K A) :=
  T.f_Desk_asked.mf fun f fd Fn => body_okD Fn sc_Desk_asked (fun _ => rfl) fun cdv B0 outer s H E hr => by
    refine ⟨_, (pss_cons (ps_if (pt_cmpR op_eq (pv 1) pe_int (nomark _))
      (pss_one (ps_ret (pe_methF (ok_Desk_add_copies T) (hr.mono (by decide)) (passes_call (takes_of rfl rfl rfl rfl) (fun _ _ _ _ h => h)) (pv 0) (pa_cons (pe_ix ix_list (pv 2) pe_int (fun _ _ => rfl)) (pa_cons (pe_ix ix_list (pv 2) pe_int (fun _ _ => rfl)) pa_nil)))))
      pss_nil)
      (pss_cons (ps_if (pt_cmpR op_eq (pv 1) pe_int (nomark _))
      (pss_one (ps_ret (pe_methF0 (ok_Desk_safe T) (hr.mono (by decide)) pass0 (pv 0))))
      pss_nil)
      (pss_cons (ps_if (pt_cmpR op_eq (pv 1) pe_int (nomark _))
      (pss_one (ps_ret (pe_callF (ok_listed T) (hr.mono (by decide)) pass0 (pa_cons (pe_callF (ok_numbers_of T.toTxt) (hr.mono (by decide)) pass0 (pa_cons (pe_methF0 (ok_House_locked T.toTxt) (hr.mono (by decide)) pass0 (pe_fld (pv 0) rfl)) pa_nil)) pa_nil))))
      pss_nil)
      (pss_cons (ps_if (pt_cmpR op_eq (pv 1) pe_int (nomark _))
      (pss_one (ps_ret (pe_methF0 (ok_House_free T.toTxt) (hr.mono (by decide)) pass0 (pe_fld (pv 0) rfl))))
      pss_nil)
      (pss_cons (ps_if (pt_cmpR op_eq (pv 1) pe_int (nomark _))
      (pss_one (ps_ret (pe_methF (ok_Desk_lack T) (hr.mono (by decide)) (passes_call (takes_of rfl rfl rfl rfl) (fun _ _ _ _ h => h)) (pv 0) (pa_cons (pe_ix ix_list (pv 2) pe_int (fun _ _ => rfl)) pa_nil))))
      pss_nil)
      (pss_cons (ps_if (pt_cmpR op_eq (pv 1) pe_int (nomark _))
      (pss_one (ps_ret (pe_callF (ok_listed T) (hr.mono (by decide)) pass0 (pa_cons (pe_ix ix_list (pe_methF0 (ok_House_all_victims T.toTxt) (hr.mono (by decide)) pass0 (pe_fld (pv 0) rfl)) pe_int (fun _ _ => rfl)) pa_nil))))
      pss_nil)
      (pss_cons (ps_if (pt_cmpR op_eq (pv 1) pe_int (nomark _))
      (pss_one (ps_ret (pe_methF0 (ok_Desk_many_orders T) (hr.mono (by decide)) pass0 (pv 0))))
      pss_nil)
      (pss_cons (ps_if (pt_cmpR op_eq (pv 1) pe_int (nomark _))
      (pss_one (ps_ret (pe_methF (ok_Desk_order T) (hr.mono (by decide)) (passes_call (takes_of rfl rfl rfl rfl) (fun _ _ _ _ h => h)) (pv 0) (pa_cons (pe_ix ix_list (pv 2) pe_int (fun _ _ => rfl)) pa_nil))))
      pss_nil)
      (pss_one (ps_ret (pe_methF0 (ok_Desk_all_told T) (hr.mono (by decide)) pass0 (pv 0)))))))))))), fun d st x F vs Q sF av hD wf pr k1 k2 => ?_⟩
    obtain ⟨wd, ns⟩ := x
    obtain ⟨u, uw, un, rfl, p0, p1, p3⟩ := av.three
    obtain rfl : u = .ref d := p0
    obtain ⟨hn7, hn1⟩ := pr
    have hn7 : wd = 7 → 2 ≤ ns.length := hn7
    have hn1 : (wd = 13 ∨ wd = 17) → ns ≠ [] := hn1
    have k : Kn A E d F H Q (askedO st wd ns) := ⟨k1, k2⟩
    have e0 : ∀ R, ns ≠ [] → Ev (tOp (rIxL K) (tVar 2) (tC (.int 0))) [some (.ref d), some uw, some un] F R (zI (ns.headD 0)) := fun R h => ev_ix (f := zI) (headD_at h) rfl (ev_var rfl p3) ev_int
    refine q_wh (c := 7) sF (ev_var rfl p1) k (fun h H1 f1 k => ?_) fun n7 H1 f1 k => ?_
    · have h2 := hn7 h
      have hne : ns ≠ [] := fun z => by
        rw [z] at h2
        cases h2
      have e1 : ns[1]? = some (ns.getD 1 0) := by
        rw [List.getD_eq_getElem?_getD, List.getElem?_eq_getElem (by omega : 1 < ns.length)]
        rfl
      exact s_dm (args := fun x : Addr × S × Int × Int => [zI x.2.2.1, zI x.2.2.2]) (pre := fun _ => True) (out := fun x => copO x.2.1 x.2.2.1 x.2.2.2) (ns.headD 0, ns.getD 1 0) f1.fh (hD.fut f1) wf trivial (by decide +kernel) (ev_var rfl zAt_rfl) (ea_cons (e0 _ hne) (ea_cons (ev_ix (f := zI) e1 rfl (ev_var rfl p3) ev_int) ea_nil)) (by unfold askedO; rw [if_pos h]) k
    have hD := hD.fut f1
    refine q_wh (c := 8) f1.fh (ev_var rfl p1) k (fun h H2 f2 k => ?_) fun n8 H2 f2 k => ?_
    · exact s_dm0 (E2 := E0) (args := fun _ : Addr × S × Unit => []) (pre := fun _ => True) (out := fun x => safeO x.2.1) () f2.fh (hD.fut f2) wf trivial (by decide +kernel) (ev_var rfl zAt_rfl) ea_nil (by unfold askedO; rw [if_neg n7, if_pos h]) (fun n z => by cases z) k
    have hD := hD.fut f2
    refine q_wh (c := 9) f2.fh (ev_var rfl p1) k (fun h H3 f3 k => ?_) fun n9 H3 f3 k => ?_
    · obtain ⟨a, hD3⟩ := hD.fut f3
      refine s_ans f3.fh ⟨a, hD3⟩ (ev_lsd (E := E0) (l := Vbwbad.ids (goAll (Vbwbad.free st) st.batches)) ?_ (ev_call (goAll (Vbwbad.free st) st.batches) pr0 (ea_cons (ev_hm (res := fun x : Addr × S × Unit => zBs A (goAll (Vbwbad.free x.2.1) x.2.1.batches)) () hD3.2.2 wf trivial (by decide +kernel) (ev_house T hD3 (ev_var rfl zAt_rfl)) ea_nil) ea_nil))) (by unfold askedO; rw [if_neg n7, if_neg n8, if_pos h]) k
      rw [ids_len]
      have h1 : (goAll (Vbwbad.free st) st.batches).length ≤ st.batches.length := going_len _ _ _
      have := wf.few
      omega
    have hD := hD.fut f3
    refine q_wh (c := 10) f3.fh (ev_var rfl p1) k (fun h H4 f4 k => ?_) fun n10 H4 f4 k => ?_
    · obtain ⟨a, hD4⟩ := hD.fut f4
      exact s_ans f4.fh ⟨a, hD4⟩ ((ev_free hD4.2.2 wf (ev_house T hD4 (ev_var rfl zAt_rfl))).imp fun v F' _ p => zN_int p) (by unfold askedO; rw [if_neg n7, if_neg n8, if_neg n9, if_pos h]; rfl) k
    have hD := hD.fut f4
    refine q_wh (c := 13) f4.fh (ev_var rfl p1) k (fun h H5 f5 k => ?_) fun n13 H5 f5 k => ?_
    · exact s_dm (args := fun x : Addr × S × Int => [zI x.2.2]) (pre := fun _ => True) (out := fun x => lackO x.2.1 x.2.2) (ns.headD 0) f5.fh (hD.fut f5) wf trivial (by decide +kernel) (ev_var rfl zAt_rfl) (ea_cons (e0 _ (hn1 (.inl h))) ea_nil) (by unfold askedO; rw [if_neg n7, if_neg n8, if_neg n9, if_neg n10, if_pos h]) k
    have hD := hD.fut f5
    refine q_wh (c := 14) f5.fh (ev_var rfl p1) k (fun h H6 f6 k => ?_) fun n14 H6 f6 k => ?_
    · obtain ⟨a, hD6⟩ := hD.fut f6
      have hne := victims_ne st
      have h10 : ((victimsP st).headD []).length ≤ 1000 := by
        have h2 : ((victimsP st).headD []).length ≤ (Vbwbad.sortedIds st).length := subs_in (List.mem_filter.mp (List.mem_of_getElem? (headD_at (x := []) hne))).1
        rw [sortedIds_len] at h2
        have := wf.few
        omega
      exact s_ans f6.fh ⟨a, hD6⟩ (ev_lsd (E := E0) h10 (ev_ix (f := fun l : List Nat => zL zN l) (headD_at hne) rfl (ev_hm (res := fun x : Addr × S × Unit => zL (zL zN) (victimsP x.2.1)) () hD6.2.2 wf trivial (by decide +kernel) (ev_house T hD6 (ev_var rfl zAt_rfl)) ea_nil) ev_int)) (by unfold askedO; rw [if_neg n7, if_neg n8, if_neg n9, if_neg n10, if_neg n13, if_pos h]) k
    have hD := hD.fut f6
    refine q_wh (c := 16) f6.fh (ev_var rfl p1) k (fun h H7 f7 k => ?_) fun n16 H7 f7 k => ?_
    · exact s_ans f7.fh (hD.fut f7) (ev_dm (res := fun x : Addr × S × Unit => zL zI [((manyOf x.2.1 : Nat) : Int)]) () (hD.fut f7) wf trivial (by decide +kernel) (ev_var rfl zAt_rfl) ea_nil) (by unfold askedO; rw [if_neg n7, if_neg n8, if_neg n9, if_neg n10, if_neg n13, if_neg n14, if_pos h]) k
    have hD := hD.fut f7
    refine q_wh (c := 17) f7.fh (ev_var rfl p1) k (fun h H8 f8 k => ?_) fun n17 H8 f8 k => ?_
    · exact s_dm (args := fun x : Addr × S × Int => [zI x.2.2]) (pre := fun _ => True) (out := fun x => orderO x.2.1 x.2.2) (ns.headD 0) f8.fh (hD.fut f8) wf trivial (by decide +kernel) (ev_var rfl zAt_rfl) (ea_cons (e0 _ (hn1 (.inr h))) ea_nil) (by unfold askedO; rw [if_neg n7, if_neg n8, if_neg n9, if_neg n10, if_neg n13, if_neg n14, if_neg n16, if_pos h]) k
    have hD := hD.fut f8
    exact s_ans f8.fh hD (ev_dm (res := fun x : Addr × S × Unit => zL zI (allL x.2.1)) () hD wf trivial (by decide +kernel) (ev_var rfl zAt_rfl) ea_nil) (by unfold askedO; rw [if_neg n7, if_neg n8, if_neg n9, if_neg n10, if_neg n13, if_neg n14, if_neg n16, if_neg n17]) k
end
end G
end

section
set_option Elab.async false
set_option linter.all false
set_option maxRecDepth 100000
set_option maxHeartbeats 4000000
namespace G
open PySem PySem.Spec PyProof.Rows L2
section
variable {P : Program} {w : World} {K : PySem.W.Frag} {mg : Str → Option Value} {base : Heap} {A : Adr}
def withL : List Int := [1, 2, 3, 4, 5, 6, 11, 12]
def ofL : List Int := [2, 3, 4, 5, 6, 11, 12]
def rowL : List Int := [0, 1, 15, 18, 19]
/-- a call that is told -/
structure Fit (w : Int) (ns : List Int) (rows : List (List Int)) : Prop where
  h1 : w ∈ withL → ns ≠ []
  h2 : w = 12 → 2 ≤ ns.length
  h3 : (w = 2 ∨ w = 3 ∨ w = 4 ∨ w = 11) → rows ≠ []
  h4 : (w = 0 ∨ w = 15 ∨ w = 18 ∨ w = 19) → rows ≠ []
  h5 : ∀ r ∈ rows, r.length ≤ 4000
  h6 : w = 7 → 2 ≤ ns.length
  h7 : (w = 13 ∨ w = 17) → ns ≠ []
def idB (n : Int) : Bool := decide (1 ≤ n) && decide (n ≤ 1000000000)
def doneO (s : S) (w : Int) (ns : List Int) (rows : List (List Int)) : Ans := if w ∈ withL ∧ idB (ns.headD 0) = false then .error (-1) else if w = 12 ∧ kindB s (ns.getD 1 0) = false then .error (-1) else if w ∈ ofL then (match Vbwbad.batchOf s (ns.headD 0).toNat with
    | none => .error (-10)
    | some b => ofBatchO s w b ns rows) else if w ∈ rowL then ofRowO s w ns rows else askedO s w ns
section
variable {σ : L2.St} {F R H : Hp} {ta tb : TE}
theorem ev_inC {a : Addr} {x : Int} {l : List Int} (h : ∀ H, SqT K H a (l.map V.int)) (ha : Ev ta σ F R (zI x)) : Ev (tOp (rIn K false) ta (tC (.ref a))) σ F R (zB (decide (x ∈ l))) := fun s H1 h1 Q k =>
  ev_two ha (ev_c (v := .ref a) (P := zAt a) rfl) s h1 (Q := Q) fun v y H3 F' u px qx => by
    have px' : v = .int x := px
    have qx' : y = .ref a := qx
    subst px' qx'
    refine ⟨a, _, rfl, .inr (h H3), rfl, flat_ints l, ?_⟩
    rw [inV_ints]
    exact k _ H3 F' u rfl
theorem mss_ints : ∀ l : List Int, MSs (l.map zI)
  | [] => ⟨fun s h => by cases h; exact .nil⟩
  | a :: l => ⟨fun s h => by
    cases h with
    | cons p q => exact .cons p ((mss_ints l).mono s q)⟩
instance {l : List Int} : MSs (l.map zI) := mss_ints l
theorem ev_inD {x : Int} {l : List Int} {tr : TA} (hl : l.length ≤ 1000) (ht : EvA tr σ F R (l.map zI)) [MSs (l.map zI)] (ha : Ev ta σ F R (zI x)) : Ev (tOp (rIn K false) ta (tTup tr)) σ F R (zB (decide (x ∈ l))) := by
  have e : Ev (tTup tr) σ F R (zTl zI l) := (ev_tup (Ps := l.map zI) (by rw [List.length_map]; exact hl) ht).imp fun v F' _ p => by
    obtain ⟨q, us, rfl, h1, h2⟩ := p
    exact ⟨q, us, rfl, h1, allR_map h2, by show _ ≤ 20000; omega⟩
  exact ev_inT (neg := false) ha e
end
def sp_Desk_done (K : PySem.W.Frag) (A : Adr) : Sp := dSp A (α := Int × List Int × List (List Int)) (fun x => [zI x.2.2.1, zL zI x.2.2.2.1, zRows x.2.2.2.2]) (fun x => Fit x.2.2.1 x.2.2.2.1 x.2.2.2.2) (fun x => doneO x.2.1 x.2.2.1 x.2.2.2.1 x.2.2.2.2)
theorem ok_Desk_done (T : TxD K mg A) : MF P w K mg base (L2.CX P w) 21 A.D "done" ["self", "word", "numbers", "rows"] (sp_Desk_done K A) :=
  T.f_Desk_done.mf fun f fd Fn => body_okD Fn sc_Desk_done (fun _ => rfl) fun cdv B0 outer s H E hr => by
    refine ⟨_, (pss_cons (ps_if (pt_cmpR op_in_seq (pv 1) (pe_glob (v := .ref A.W) rfl T.c_WITH_ID rfl) (by rfl))
      (pss_one (ps_expr (pe_callF (ok_want T) (hr.mono (by decide)) (passes_call (takes_of rfl rfl rfl rfl) (fun _ _ _ _ h => h)) (pa_cons (pe_chain op_le op_le pe_int (pe_ix ix_list (pv 2) pe_int (fun _ _ => rfl)) (pe_glob (v := .int (1000000000)) rfl T.c_MOST_NUMBER ⟨_, rfl⟩)) (pa_cons (pe_glob (v := .int (-1)) rfl T.c_OUT_OF_RANGE ⟨_, rfl⟩) pa_nil)))))
      pss_nil)
      (pss_cons (ps_if (pt_cmpR op_eq (pv 1) pe_int (nomark _))
      (pss_one (ps_expr (pe_methF (ok_Desk_want_kind T) (hr.mono (by decide)) (passes_call (takes_of rfl rfl rfl rfl) (fun _ _ _ _ h => h)) (pv 0) (pa_cons (pe_ix ix_list (pv 2) pe_int (fun _ _ => rfl)) pa_nil))))
      pss_nil)
      (pss_cons (ps_if (pt_cmpR op_in_seq (pv 1) (pe_glob (v := .ref A.V) rfl T.c_OF_BATCH rfl) (by rfl))
      (pss_one (ps_ret (pe_methF (ok_Desk_of_batch T) (hr.mono (by decide)) (passes_call (takes_of rfl rfl rfl rfl) (fun _ _ _ _ h => h)) (pv 0) (pa_cons (pv 1) (pa_cons (pe_methF (ok_Desk_batch_of T) (hr.mono (by decide)) (passes_call (takes_of rfl rfl rfl rfl) (fun _ _ _ _ h => h)) (pv 0) (pa_cons (pe_ix ix_list (pv 2) pe_int (fun _ _ => rfl)) pa_nil)) (pa_cons (pv 2) (pa_cons (pv 3) pa_nil)))))))
      pss_nil)
      (pss_cons (ps_if (pt_cmpR op_in_seq (pv 1) (pe_tup (pa_cons pe_int (pa_cons pe_int (pa_cons pe_int (pa_cons pe_int (pa_cons pe_int pa_nil)))))) (by rfl))
      (pss_one (ps_ret (pe_methF (ok_Desk_of_row T) (hr.mono (by decide)) (passes_call (takes_of rfl rfl rfl rfl) (fun _ _ _ _ h => h)) (pv 0) (pa_cons (pv 1) (pa_cons (pv 2) (pa_cons (pv 3) pa_nil))))))
      pss_nil)
      (pss_one (ps_ret (pe_methF (ok_Desk_asked T) (hr.mono (by decide)) (passes_call (takes_of rfl rfl rfl rfl) (fun _ _ _ _ h => h)) (pv 0) (pa_cons (pv 1) (pa_cons (pv 2) pa_nil))))))))), fun d st x F vs Q sF av hD wf pr k1 k2 => ?_⟩
    obtain ⟨wd, ns, rows⟩ := x
    obtain ⟨u, uw, un, ur, rfl, p0, p1, p3, p4⟩ := av.four
    obtain rfl : u = .ref d := p0
    have fit : Fit wd ns rows := pr
    have p4 : zRows rows ur F := p4
    have k : Kn A E d F H Q (doneO st wd ns rows) := ⟨k1, k2⟩
    have e0 : ∀ R, ns ≠ [] → Ev (tOp (rIxL K) (tVar 2) (tC (.int 0))) [some (.ref d), some uw, some un, some ur] F R (zI (ns.headD 0)) := fun R h => ev_ix (f := zI) (headD_at h) rfl (ev_var rfl p3) ev_int
    have next : ∀ {tz : TS} {D : Ends}, D.rt = Q → (∀ H1, Fut F F H H1 → ¬ (wd ∈ withL ∧ idB (ns.headD 0) = false) → tz D [some (.ref d), some uw, some un, some ur] H1) →
        tSeq (tIfS (tTest (tOp (rIn K false) (tVar 1) (tC (.ref A.W)))) (tDrop (tCall (sp_want K A) [] E (tCons (tChain (rI0 fun i j => .bl (decide (i ≤ j))) (rI0 fun i j => .bl (decide (i ≤ j))) (tC (.int 1)) (tOp (rIxL K) (tVar 2) (tC (.int 0))) (tC (.int 1000000000))) (tCons (tC (.int (-1))) tNil)))) tNext) tz D [some (.ref d), some uw, some un, some ur] H := by
      intro tz D hD' hz
      refine q_if sF (et_test (ev_inC (l := withL) T.t_WITH_ID (ev_var rfl p1))) (fun hc H1 f1 => ?_) fun hc H1 f1 => ?_
      · have hw : wd ∈ withL := of_decide_eq_true hc
        refine st_want f1.fh (b := idB (ns.headD 0)) (n := -1) (ev_chain (g := fun i j => decide (i ≤ j)) (g' := fun i j => decide (i ≤ j)) ev_int (e0 _ (fit.h1 hw)) (ev_c rfl)) (ev_c rfl) (fun h => (k.1 _ (by unfold doneO; rw [if_pos ⟨hw, h⟩])).later f1) fun h H2 f2 => hz H2 (f1.trans f2) fun z => ?_
        rw [h] at z
        exact absurd z.2 (by decide)
      · exact hz H1 f1 fun z => of_decide_eq_false hc z.1
    refine next rfl fun H1 f1 c1 => ?_
    have k := k.later f1
    have hD := hD.fut f1
    have next2 : ∀ {tz : TS} {D : Ends}, D.rt = Q → (∀ H2, Fut F F H1 H2 → ¬ (wd = 12 ∧ kindB st (ns.getD 1 0) = false) → tz D [some (.ref d), some uw, some un, some ur] H2) →
        tSeq (tIfS (tTest (tOp rEq (tVar 1) (tC (.int 12)))) (tDrop (tMeth A.D "want_kind" (sp_Desk_want_kind K A) [] E (tVar 0) (tCons (tOp (rIxL K) (tVar 2) (tC (.int 1))) tNil))) tNext) tz D [some (.ref d), some uw, some un, some ur] H1 := by
      intro tz D hD' hz
      refine q_if f1.fh (et_test (ev_eqI (ev_var rfl p1) (ev_int (i := 12)))) (fun hc H2 f2 => ?_) fun hc H2 f2 => ?_
      · have hw : wd = 12 := of_decide_eq_true hc
        have hlen := fit.h2 hw
        have e1 : ns[1]? = some (ns.getD 1 0) := by
          rw [List.getD_eq_getElem?_getD, List.getElem?_eq_getElem (by omega : 1 < ns.length)]
          rfl
        refine st_wk f2.fh (hD.fut f2) wf (ev_var rfl zAt_rfl) (ev_ix (f := zI) e1 rfl (ev_var rfl p3) ev_int) (fun h => (k.1 _ (by unfold doneO; rw [if_neg c1, if_pos ⟨hw, h⟩])).later f2) fun h H3 f3 => hz H3 (f2.trans f3) fun z => ?_
        rw [h] at z
        exact absurd z.2 (by decide)
      · exact hz H2 f2 fun z => of_decide_eq_false hc z.1
    refine next2 rfl fun H2 f2 c2 => ?_
    have k := k.later f2
    have hD := hD.fut f2
    refine q_when f2.fh (et_test (ev_inC (l := ofL) T.t_OF_BATCH (ev_var rfl p1))) (fun hc H3 f3 => ?_) fun hc H3 f3 => ?_
    · have hw : wd ∈ ofL := of_decide_eq_true hc
      have hw2 : wd ∈ withL := by
        unfold ofL at hw
        unfold withL
        exact List.mem_cons_of_mem _ hw
      have hid : idB (ns.headD 0) = true := by
        cases e : idB (ns.headD 0) with
        | true => rfl
        | false => exact absurd ⟨hw2, e⟩ c1
      obtain ⟨i, hi⟩ : ∃ i : Nat, ns.headD 0 = (i : Int) := by
        unfold idB at hid
        rw [Bool.and_eq_true, decide_eq_true_eq, decide_eq_true_eq] at hid
        exact ⟨(ns.headD 0).toNat, by omega⟩
      have eo : doneO st wd ns rows = (match Vbwbad.batchOf st i with
          | none => .error (-10)
          | some b => ofBatchO st wd b ns rows) := by
        unfold doneO
        rw [if_neg c1, if_neg c2, if_pos hw, hi, Int.toNat_natCast]
      have k := k.later f3
      have hD := hD.fut f3
      obtain ⟨a, dx, fs, ea, hh, lk⟩ := ins_desk hD (m := "of_batch") (by decide +kernel) (.ref d) F H3 (Same.refl _) (Same.refl _) f3.fh rfl
      have ei := e0 H3 (fit.h1 hw2)
      rw [hi] at ei
      refine ⟨_, rfl, a, dx, fs, ea, hh, lk, _, rfl, ?_⟩
      refine r_wm (args := fun x : Addr × S × Nat => [zN x.2.2]) (pre := fun _ => True) (ref := fun x => if (Vbwbad.batchOf x.2.1 x.2.2).isSome = true then none else some (-10)) (res := fun x => zOB A (Vbwbad.batchOf x.2.1 x.2.2)) i f3.fh hD wf trivial (by decide +kernel) (ev_var rfl zAt_rfl) (ea_cons ei ea_nil) (fun n h => ?_) fun h v H4 F4 f4 pv => ?_
      · have h : (if (Vbwbad.batchOf st i).isSome = true then none else some (-10 : Int)) = some n := h
        cases e : Vbwbad.batchOf st i with
        | some b =>
          rw [e] at h
          cases h
        | none =>
          rw [e] at h
          cases h
          exact k.1 _ (by rw [eo, e])
      · have h : (if (Vbwbad.batchOf st i).isSome = true then none else some (-10 : Int)) = none := h
        have pv : zOB A (Vbwbad.batchOf st i) v F4 := pv
        cases e : Vbwbad.batchOf st i with
        | none =>
          rw [e] at h
          cases h
        | some b =>
          rw [e] at pv eo
          have pv : zBat A b v F4 := pv
          have k := k.later f4
          have hD := hD.fut f4
          refine ⟨_, rfl, _, rfl, ?_⟩
          refine ⟨(d, st, wd, b, ns, rows), F4, f4.fh, .cons rfl (.cons p1 (.cons pv (.cons (up f4.ff p3) (.cons (up f4.ff p4) .nil)))), hD, wf, ⟨(batchOf_mem' e).1, fit.h3, fun hn => ?_⟩, fun n h => k.1 n (eo.trans h), fun s' l h => k.2 s' l (eo.trans h)⟩
          have h12 : wd = 12 := by
            unfold ofL at hw
            simp only [List.mem_cons, List.not_mem_nil, or_false] at hw
            rcases hw with q | q | q | q | q | q | q
            · exact absurd q hn.1
            · exact absurd q hn.2.1
            · exact absurd q hn.2.2.1
            · exact absurd q hn.2.2.2.1
            · exact absurd q hn.2.2.2.2.1
            · exact absurd q hn.2.2.2.2.2
            · exact q
          have hlen := fit.h2 h12
          have hk : kindB st (ns.getD 1 0) = true := by
            cases q : kindB st (ns.getD 1 0) with
            | true => rfl
            | false => exact absurd ⟨h12, q⟩ c2
          obtain ⟨j, hj, hlt⟩ := kind_nat hk
          refine ⟨j, ?_, hlt⟩
          rw [List.getElem?_eq_getElem (by omega : 1 < ns.length), ← hj, List.getD_eq_getElem?_getD, List.getElem?_eq_getElem (by omega : 1 < ns.length)]
          rfl
    · have hnw : ¬ wd ∈ ofL := of_decide_eq_false hc
      have k := k.later f3
      have hD := hD.fut f3
      have et : EvA (tCons (tC (.int 0)) (tCons (tC (.int 1)) (tCons (tC (.int 15)) (tCons (tC (.int 18)) (tCons (tC (.int 19)) tNil))))) [some (.ref d), some uw, some un, some ur] F H3 [zI 0, zI 1, zI 15, zI 18, zI 19] := ea_cons ev_int (ea_cons ev_int (ea_cons ev_int (ea_cons ev_int (ea_cons ev_int ea_nil))))
      refine q_when f3.fh (et_test (ev_inD (l := rowL) (by decide) et (ev_var rfl p1))) (fun hc H4 f4 => ?_) fun hc H4 f4 => ?_
      · have hr : wd ∈ rowL := of_decide_eq_true hc
        refine s_dm (args := fun x : Addr × S × Int × List Int × List (List Int) => [zI x.2.2.1, zL zI x.2.2.2.1, zRows x.2.2.2.2]) (pre := fun x => (x.2.2.1 = 1 → ∃ i : Nat, x.2.2.2.1[0]? = some (i : Int)) ∧ (¬ x.2.2.1 = 1 → x.2.2.2.2 ≠ []) ∧ ∀ r ∈ x.2.2.2.2, r.length ≤ 4000) (out := fun x => ofRowO x.2.1 x.2.2.1 x.2.2.2.1 x.2.2.2.2) (wd, ns, rows) f4.fh (hD.fut f4) wf ⟨fun h => ?_, fun h => ?_, fit.h5⟩ (by decide +kernel) (ev_var rfl zAt_rfl) (ea_cons (ev_var rfl p1) (ea_cons (ev_var rfl p3) (ea_cons (ev_var rfl p4) ea_nil))) (by unfold doneO; rw [if_neg c1, if_neg c2, if_neg hnw, if_pos hr]) (k.later f4)
        · have h : wd = 1 := h
          have hw2 : wd ∈ withL := by
            rw [h]
            exact List.mem_cons_self ..
          have hid : idB (ns.headD 0) = true := by
            cases e : idB (ns.headD 0) with
            | true => rfl
            | false => exact absurd ⟨hw2, e⟩ c1
          unfold idB at hid
          rw [Bool.and_eq_true, decide_eq_true_eq, decide_eq_true_eq] at hid
          refine ⟨(ns.headD 0).toNat, ?_⟩
          show ns[0]? = _
          rw [headD_at (x := 0) (fit.h1 hw2)]
          congr 1
          omega
        · have h : ¬ wd = 1 := h
          refine fit.h4 ?_
          unfold rowL at hr
          simp only [List.mem_cons, List.not_mem_nil, or_false] at hr
          rcases hr with q | q | q | q | q
          · exact .inl q
          · exact absurd q h
          · exact .inr (.inl q)
          · exact .inr (.inr (.inl q))
          · exact .inr (.inr (.inr q))
      · have hnr : ¬ wd ∈ rowL := of_decide_eq_false hc
        exact s_dm (args := fun x : Addr × S × Int × List Int => [zI x.2.2.1, zL zI x.2.2.2]) (pre := fun x => (x.2.2.1 = 7 → 2 ≤ x.2.2.2.length) ∧ ((x.2.2.1 = 13 ∨ x.2.2.1 = 17) → x.2.2.2 ≠ [])) (out := fun x => askedO x.2.1 x.2.2.1 x.2.2.2) (wd, ns) f4.fh (hD.fut f4) wf ⟨fit.h6, fit.h7⟩ (by decide +kernel) (ev_var rfl zAt_rfl) (ea_cons (ev_var rfl p1) (ea_cons (ev_var rfl p3) ea_nil)) (by unfold doneO; rw [if_neg c1, if_neg c2, if_neg hnw, if_neg hnr]) (k.later f4)
/-! ### answer: refusals are caught -/
end
end G
namespace L2
open PySem PySem.Spec PyProof.Rows
section
variable {X : Cx} {CX : CXT} {k : Nat} {C : Addr} {m : Str} {ps : List Str} {sp : Sp} {E : St → XK} {o e : Expr} {es : List Expr} {ta : TE} {t : TA} {apos pos : Pos}
theorem pe_methW {pl : Sem Bool} (c : G.MF X.prog X.w X.K X.mg X.base CX k C m ps sp) (hr : Room k X.A) (hx : ∀ σ, PassesAt CX X σ (E σ)) (he : PE X o ta) (ha : PA X (e :: es) t)
    (hst : starEach (e :: es) X.env = (false, eval e X.env) :: starEach es X.env := by rfl) (hpl : (backTo pos (starEach es X.env)).any (·.1) = false := by rfl)
    (ht : eval (.Call (.Attribute o m apos) (e :: es) [] pos) X.env = (do
      let ov ← eval o X.env
      standAt apos.atName
      let (f, first) ← holding [ov] (getMethod ov m pl)
      callWith pos f first (backTo pos (starEach (e :: es) X.env)) (backToKw pos (keywordEach [] X.env))) := by rfl) :
    PE X (.Call (.Attribute o m apos) (e :: es) [] pos) (fun σ H Q => tMeth C m sp [] (E σ) ta t σ H Q) := by
  obtain ⟨f, fd, F, hb, hc, hm⟩ := c.ex
  refine ⟨fun pins s σ H Q I h => ?_⟩
  refine PySem.W.methodCall_KW (pl := pl) (thn (he.run pins s σ H _ I h) fun u s1 ⟨x, H1, I1, rx, a, dx, fs, ex, ea, l, q⟩ => ?_) ht
  subst ex
  obtain rfl : u = Value.ref a := rx
  refine getmeth_ok I1 ea hc hm l ?_
  refine PySem.W.callWith_K (first := [.ref a]) (h₀ := X.base) I.ok.mod.kin hm.kp (thn (ha.run pos pins s1 σ H1 _ I1 q) fun us s2 ⟨vs, H2, I2, r, q2⟩ => ⟨I2.kIn, ?_⟩) hst hpl
  have q2 : sp (V.ref a :: (vs ++ [])) H2 Q (E σ) := q2
  rw [List.append_nil] at q2
  exact run_fnS (us := .ref a :: us) (vs := .ref a :: vs) F hr hb (hx σ) I2 (.cons rfl r) q2
end
end L2
namespace G
open PySem PySem.Spec PyProof.Rows L2
section
variable {P : Program} {w : World} {K : PySem.W.Frag} {mg : Str → Option Value} {base : Heap} {A : Adr}
def finA (s : S) (o : Ans) : S × List Int := match o with
  | .error n => (s, [n])
  | .ok r => r
def sp_Desk_answer (K : PySem.W.Frag) (A : Adr) : Sp := dSp A (α := Int × List Int × List (List Int)) (fun x => [zI x.2.2.1, zL zI x.2.2.2.1, zRows x.2.2.2.2]) (fun x => Fit x.2.2.1 x.2.2.2.1 x.2.2.2.2) (fun x => .ok (finA x.2.1 (doneO x.2.1 x.2.2.1 x.2.2.2.1 x.2.2.2.2)))
def t_suite (C : Addr) : Addr → Value → Option Addr → TS := fun a cls d => tAsg (tLst (tCons (tXf a cls d C "number" (tVar 5)) tNil)) (gName 4)
theorem ok_Desk_answer (T : TxD K mg A) : MF P w K mg base CX0 22 A.D "answer" ["self", "word", "numbers", "rows"] (sp_Desk_answer K A) :=
  T.f_Desk_answer.mf fun f fd Fn => body_okD0 Fn sc_Desk_answer (fun _ => rfl) fun cdv B0 outer s H E hr => by
    refine ⟨_, pss_cons (ps_try_as (i := 5) (tb := fun W => tAsg (tCB (fun xs H Q => ∃ p ys, xs = [.ref p] ∧ (SqL K H p ys ∨ SqT K H p ys) ∧ ∀ l, H l = none → Q (.ref l) (upd H l (.lst ys))) (tCons (fun σ H Q => tMeth A.D "done" (sp_Desk_done K A) [] (WE W σ) (tVar 0) (tCons (tVar 1) (tCons (tVar 2) (tCons (tVar 3) tNil))) σ H Q) tNil)) (gName 4)) (ts := t_suite A.X) (Wout := fun _ _ _ _ => False) rfl rfl sc_Desk_answer.nd rfl rfl ⟨rfl, by decide, Or.inl T.ref.gC⟩ takes0
      (fun W pn xe tk _ => pss_one (ps_set (i := 4) sc_Desk_answer.nd rfl (Or.inl rfl) (by exact (pe_callTy call_list_of rfl T.b_list (by decide +kernel) (pa_cons (pe_methW (ok_Desk_done T) (hr.mono (by decide)) (fun σ => passAt tk σ) (pv 0) (pa_cons (pv 1) (pa_cons (pv 2) (pa_cons (pv 3) pa_nil)))) pa_nil)))))
      (fun a oe cls d pn hz hf => pss_one (ps_set (i := 4) sc_Desk_answer.nd rfl (Or.inl rfl) (by exact (pe_lst (pa_cons (pe_xf T.ref.xf T.ref.noN hz hf (pv 5)) pa_nil))))))
      (pss_one (ps_ret (pv 4))), fun d st x F vs Q sF av hD wf pr k2 => ?_⟩
    obtain ⟨wd, ns, rows⟩ := x
    obtain ⟨u, uw, un, ur, rfl, p0, p1, p3, p4⟩ := av.four
    obtain rfl : u = .ref d := p0
    change tMeth A.D "done" (sp_Desk_done K A) [] (WE (wAs K (.ref A.X) 5 (t_suite A.X) (fun _ _ _ _ => False) { nx := tRet (tVar 4) { nx := fun _ H' => Q .non H', rt := Q }, rt := Q }) [some (.ref d), some uw, some un, some ur, none, none]) (tVar 0) (tCons (tVar 1) (tCons (tVar 2) (tCons (tVar 3) tNil))) [some (.ref d), some uw, some un, some ur, none, none] H
      (fun v H1 => ∃ p ys, [v] = [V.ref p] ∧ (SqL K H1 p ys ∨ SqT K H1 p ys) ∧ ∀ l, H1 l = none → tRet (tVar 4) { nx := fun _ H' => Q .non H', rt := Q } [some (.ref d), some uw, some un, some ur, some (.ref l), none] (upd H1 l (.lst ys)))
    refine (r_dm (args := fun x : Addr × S × Int × List Int × List (List Int) => [zI x.2.2.1, zL zI x.2.2.2.1, zRows x.2.2.2.2]) (pre := fun x => Fit x.2.2.1 x.2.2.2.1 x.2.2.2.2) (out := fun x => doneO x.2.1 x.2.2.1 x.2.2.2.1 x.2.2.2.2) (wd, ns, rows) sF hD wf pr (by decide +kernel) (ev_var rfl zAt_rfl) (ea_cons (ev_var rfl p1) (ea_cons (ev_var rfl p3) (ea_cons (ev_var rfl p4) ea_nil))) (fun n h => ?_) fun s' l h v H2 F2 f2 hD2 pv => ?_)
    · intro F2 H2 dd f2 hx
      refine ⟨true, T.ref.te, fun _ a0 _ => ?_, fun q => Bool.noConfusion q⟩
      have lk : List.lookup ("number" : Str) [(("number" : Str), V.int n)] = some (.int n) := lk_here
      refine ⟨_, rfl, rfl, rfl, dd, _, _, rfl, hx, lk, ⟨by show 1 ≤ sizeLine; decide, fun p hp => ?_⟩⟩
      have f3 := Fut.new (o := HO.lst [.int n]) f2.fh hp
      refine ⟨_, rfl, k2 st [n] ?_ _ _ _ (.of (f2.trans f3)) (hD.fut (f2.trans f3)) ⟨p, _, rfl, upd_same, .cons rfl .nil, by show 1 ≤ 20000; decide⟩⟩
      show Except.ok (finA st (doneO st wd ns rows)) = _
      have h : doneO st wd ns rows = .error n := h
      rw [h]
      rfl
    · obtain ⟨p, us, rfl, hp, lp, zp, pp⟩ := zL_at pv
      refine ⟨p, us, rfl, .inl (SqL.of (f2.fh _ _ hp)), fun r hr' => ?_⟩
      have f3 := Fut.new (o := HO.lst us) f2.fh hr'
      refine ⟨_, rfl, k2 s' l ?_ _ _ _ (f2.trans (.of f3)) (hD2.fut f3) ⟨r, us, rfl, upd_same, paired_up f3.ff pp, zp⟩⟩
      show Except.ok (finA st (doneO st wd ns rows)) = _
      have h : doneO st wd ns rows = .ok (s', l) := h
      rw [h]
      rfl
end
end G
end

section
set_option Elab.async false
set_option linter.all false
set_option maxRecDepth 100000
set_option maxHeartbeats 4000000
namespace G
open PySem PySem.Spec PyProof.Rows L2
/-! ### rows, calls -/
theorem row_some {l : List Int} {x t : List Int} (h : PyFlat.row l = some (x, t)) : ∃ n : Nat, ∃ r, l = (n : Int) :: r ∧ n ≤ r.length ∧ x = r.take n ∧ t = r.drop n := by
  cases l with
  | nil => cases h
  | cons a r =>
    have h : (if 0 ≤ a ∧ a.toNat ≤ r.length then some (r.take a.toNat, r.drop a.toNat) else none) = some (x, t) := h
    by_cases c : 0 ≤ a ∧ a.toNat ≤ r.length
    · rw [if_pos c] at h
      cases h
      refine ⟨a.toNat, r, ?_, c.2, rfl, rfl⟩
      rw [Int.toNat_of_nonneg c.1]
    · rw [if_neg c] at h
      cases h
theorem rows_le : ∀ {k : Nat} {t u : List Int} {xs : List (List Int)}, PyFlat.rows k t = some (xs, u) → k ≤ t.length
  | 0, t, u, xs, _ => Nat.zero_le _
  | k + 1, t, u, xs, h => by
    unfold PyFlat.rows at h
    cases e : PyFlat.row t with
    | none =>
      rw [e] at h
      cases h
    | some p =>
      obtain ⟨x, s⟩ := p
      rw [e] at h
      have h : (match PyFlat.rows k s with
        | none => none
        | some (xs, t) => some (x :: xs, t)) = some (xs, u) := h
      cases e2 : PyFlat.rows k s with
      | none =>
        rw [e2] at h
        cases h
      | some q =>
        have := rows_le e2
        obtain ⟨n, r, rfl, hn, rfl, rfl⟩ := row_some e
        rw [List.length_drop] at this
        rw [List.length_cons]
        omega
theorem rows_succ {k : Nat} {t u : List Int} {xs : List (List Int)} (h : PyFlat.rows (k + 1) t = some (xs, u)) : ∃ (n : Nat) (r : List Int) (ys : List (List Int)), t = (n : Int) :: r ∧ n ≤ r.length ∧ xs = r.take n :: ys ∧ PyFlat.rows k (r.drop n) = some (ys, u) := by
  unfold PyFlat.rows at h
  cases e : PyFlat.row t with
  | none =>
    rw [e] at h
    cases h
  | some p =>
    obtain ⟨x, s⟩ := p
    rw [e] at h
    have h : (match PyFlat.rows k s with
      | none => none
      | some (xs, t) => some (x :: xs, t)) = some (xs, u) := h
    cases e2 : PyFlat.rows k s with
    | none =>
      rw [e2] at h
      cases h
    | some q =>
      obtain ⟨ys, v⟩ := q
      rw [e2] at h
      cases h
      obtain ⟨n, r, rfl, hn, rfl, rfl⟩ := row_some e
      exact ⟨n, r, ys, rfl, hn, rfl, e2⟩
section
variable {P : Program} {w : World} {K : PySem.W.Frag} {mg : Str → Option Value} {base : Heap} {A : Adr}
/-- the list that is handed in -/
def zS (K : PySem.W.Frag) (cs : List Int) : Rp := fun v F => ∃ p, v = .ref p ∧ SqL K F p (cs.map V.int)
theorem SqL.same {F F' : Hp} {p : Addr} {xs : List V} (h : SqL K F p xs) (s : Same F F') : SqL K F' p xs := by
  rcases h with (h | ⟨o, h⟩) | h
  · exact .inl (.inl (s _ _ h))
  · exact .inl (.inr ⟨o, s _ _ h⟩)
  · exact .inr h
instance {cs : List Int} : MS (zS K cs) := ⟨fun s ⟨p, e, h⟩ => ⟨p, e, SqL.same h s⟩⟩
section
variable {σ : L2.St} {F R : Hp} {ta tb : TE} {tr : TA}
theorem ev_lenS {cs : List Int} (h : EvA tr σ F R [zS K cs]) : Ev (tCB (fun xs H Q => ∃ p ys, xs = [.ref p] ∧ (SqL K H p ys ∨ SqT K H p ys) ∧ Q (.int ys.length) H) tr) σ F R (zN cs.length) := fun s H1 h1 Q k =>
  one_arg h s H1 h1 _ fun v H2 F' u px => by
    obtain ⟨p, rfl, hp⟩ := px
    refine ⟨p, _, rfl, .inl (SqL.same hp u.fh), ?_⟩
    rw [List.length_map]
    exact k _ H2 F' u rfl
theorem ev_ixS {cs : List Int} {i : Int} {j : Nat} {a : Int} (hj : cs[j]? = some a) (e : i = (j : Int)) (ha : Ev ta σ F R (zS K cs)) (hb : Ev tb σ F R (zI i)) : Ev (tOp (rIxL K) ta tb) σ F R (zI a) := fun s H1 h1 Q k =>
  ev_two ha hb s h1 (Q := Q) fun x y H3 F' u px qx => by
    obtain ⟨p, rfl, hp⟩ := px
    exact ⟨p, _, i, .int a, rfl, qx, SqL.same hp u.fh, by rw [e]; exact atI_nat (by rw [List.getElem?_map, hj]; rfl), k _ H3 F' u rfl⟩
/-- cs[i:j] -/
theorem ev_slS {cs : List Int} {i j : Nat} {t1 t2 : TE} (hij : i ≤ j) (hj : j ≤ cs.length) (hl : cs.length ≤ LB) (ha : Ev ta σ F R (zS K cs)) (h1 : Ev t1 σ F R (zN i)) (h2 : Ev t2 σ F R (zN j)) : Ev (tSl (rSlL K) ta (tPart t1) (tPart t2)) σ F R (zL zI ((cs.drop i).take (j - i))) := fun s H1 hh Q k =>
  ha s H1 hh _ fun v H2 F1 u1 p1 => h1 s H2 (hh.trans u1.hh) _ fun x H3 F2 u2 p2 => ⟨(i : Int), p2, h2 s H3 (hh.trans (u1.hh.trans u2.hh)) _ fun y H4 F3 u3 p3 => ⟨(j : Int), p3, by
    obtain ⟨p, rfl, hp⟩ := p1
    refine ⟨p, cs.map V.int, rfl, SqL.same hp (u1.fh.trans (u2.hh.trans u3.hh)), fun q hq => ?_⟩
    obtain ⟨u, e1, e2⟩ := u1.join u2
    obtain ⟨u', _, _⟩ := u.join u3
    have hl' : cs.length ≤ 20000 := hl
    have ec : cutV (cs.map V.int) (some (i : Int)) (some (j : Int)) = ((cs.drop i).take (j - i)).map V.int := by
      unfold cutV
      rw [List.length_map, HT.sIx_nat, HT.sIx_nat, Nat.min_eq_left (Nat.le_trans hij hj), Nat.min_eq_left hj, ← List.map_drop, ← List.map_take]
    rw [ec]
    have u4 := Fut.new (o := HO.lst (((cs.drop i).take (j - i)).map V.int)) u'.fh hq
    refine k _ _ _ (u'.trans u4) ⟨q, _, rfl, upd_same, paired_of_ints _, ?_⟩
    rw [List.length_take, List.length_drop]
    show _ ≤ 20000
    omega⟩⟩
end
def sp_rows_at (K : PySem.W.Frag) (A : Adr) : Sp := FSp (fun x : List Int × Nat × List (List Int) × List Int => [zS K x.1, zN x.2.1]) (fun x _ _ => x.1.length ≤ 17000 ∧ ∃ k : Nat, x.1[x.2.1]? = some (k : Int) ∧ PyFlat.rows k (x.1.drop (x.2.1 + 1)) = some (x.2.2.1, x.2.2.2)) (fun x => zT [zRows x.2.2.1, zN (x.1.length - x.2.2.2.length)])
theorem ok_rows_at (T : TxD K mg A) : CF P w K mg base CX0 1 "rows_at" ["calls", "at"] (sp_rows_at K A) :=
  T.f_rows_at.cf fun f fd Fn => body_ok Fn sc_rows_at (fun _ => rfl) fun cdv B0 outer s H E hr => by
    refine ⟨_, (pss_cons (ps_set (i := 2) sc_rows_at.nd rfl (Or.inl rfl) (pe_lst pa_nil))
      (pss_cons (ps_set (i := 3) sc_rows_at.nd rfl (Or.inl rfl) (pe_op op_add (pv 1) pe_int))
      (pss_cons (ps_for PassesOwn.never rfl (pi_range1 rfl T.b_range (pa_cons (pe_ix ix_list (pv 0) (pv 1) (fun _ _ => rfl)) pa_nil)) (pg_name (i := 4) sc_rows_at.nd rfl (Or.inl rfl))
      (pss_cons (ps_set (i := 5) sc_rows_at.nd rfl (Or.inl rfl) (pe_op op_add (pv 3) pe_int))
      (pss_cons (ps_set (i := 3) sc_rows_at.nd rfl (Or.inl rfl) (pe_op op_add (pv 5) (pe_ix ix_list (pv 0) (pv 3) (fun _ _ => rfl))))
      (pss_one (ps_expr (pe_bm PySem.F.plainAttrs_list PySem.F.slot_list_append PySem.F.type_list_append mt_append (pv 2) (pa_cons (pe_slice sl_list (pv 0) (po_some (pv 5)) (po_some (pv 3))) pa_nil)))))))
      (pss_one (ps_ret (pe_tup (pa_cons (pv 2) (pa_cons (pv 3) pa_nil)))))))), fun x F vs Q sF av pr kk => ?_⟩
    obtain ⟨cs, at0, xs, u⟩ := x
    obtain ⟨v1, v2, rfl, p1, p2⟩ := av.two
    obtain ⟨hlen, k, hk, hrows⟩ := pr
    have hlen : cs.length ≤ 17000 := hlen
    have hk : cs[at0]? = some (k : Int) := hk
    have hrows : PyFlat.rows k (cs.drop (at0 + 1)) = some (xs, u) := hrows
    have p1 : zS K cs v1 F := p1
    have hkl : k ≤ 17000 := by
      have := rows_le hrows
      rw [List.length_drop] at this
      omega
    have hat : at0 < cs.length := (List.getElem?_eq_some_iff.mp hk).1
    refine q_new sF fun lo nlo s0 => ?_
    have flo : F lo = none := same_none sF nlo
    have fu0 : Fut F F H (upd H lo (.lst [])) := Fut.grow sF (same_upd (Same.refl _) nlo)
    refine q_asg s0 (Ev.int (Int.natCast_add at0 1).symm (ev_add (ev_var rfl p2) ev_int)) fun v3 H1 F1 f1 p3 => ?_
    have p3 : v3 = .int ((at0 + 1 : Nat) : Int) := p3
    subst p3
    have fl1 : F1 lo = none := f1.nw lo (by rw [upd_same]; exact fun z => by cases z) flo
    refine q_for f1.fh (ei_range (n := k) (by show k ≤ 20000; omega) (ea_cons (ev_ixS hk rfl (ev_var rfl (up f1.ff p1)) (ev_var rfl p2)) ea_nil)) fun H2 F2 f2 => ⟨fun i σ F' H' => Fut F F' H H' ∧ Same F2 F' ∧ ∃ (e : Nat) (done ys : List (List Int)) (us : List V) (x4 x5 : Option V), σ = [some v1, some v2, some (.ref lo), some (.int (e : Int)), x4, x5] ∧ e ≤ cs.length ∧
        PyFlat.rows (k - i) (cs.drop e) = some (ys, u) ∧ xs = done ++ ys ∧ done.length = i ∧ H' lo = some (.lst us) ∧ F' lo = none ∧ Paired (fun r u => zL zI r u F') done us,
      ⟨(fu0.trans f1).trans f2, Same.refl _, at0 + 1, [], xs, [], none, none, rfl, hat, hrows, rfl, rfl, f2.hh _ _ (f1.hh _ _ upd_same), f2.nw lo (by rw [f1.hh _ _ upd_same]; exact fun z => by cases z) fl1, .nil⟩, fun i σ F' H' q => ⟨q.2.1, q.1.fh⟩, ?_, ?_⟩
    · rintro i n y σ F' Hc F3 H3 hb ⟨fu, sf, e, done, ys, us, x4, x5, rfl, he, hr, hx, hd, hl, fl, pq⟩ fx gx
      have hi : i < k := by
        have := (List.getElem?_eq_some_iff.mp hb).1
        rw [List.length_range] at this
        exact this
      obtain ⟨m, hm⟩ : ∃ m, k - i = m + 1 := ⟨k - i - 1, by omega⟩
      rw [hm] at hr
      obtain ⟨c, r, zs, ht, hc, rfl, hr2⟩ := rows_succ hr
      have hce : cs[e]? = some (c : Int) := by
        have := congrArg (fun l => l[0]?) ht
        simpa using this
      have hrd : r = cs.drop (e + 1) := by
        have := congrArg (fun l => l.drop 1) ht
        simpa [Nat.add_comm] using this.symm
      have hlt : e < cs.length := (List.getElem?_eq_some_iff.mp hce).1
      have hrl : r.length = cs.length - (e + 1) := by rw [hrd, List.length_drop]
      have p1' : zS K cs v1 F3 := up (fu.ff.trans fx.ff) p1
      refine b_g (q_asg fx.fh (Ev.int (Int.natCast_add e 1).symm (ev_add (i := (e : Int)) (ev_var rfl rfl) ev_int)) fun v5 H5 F5 f5 p5 => ?_)
      have p5 : v5 = .int ((e + 1 : Nat) : Int) := p5
      subst p5
      refine q_asg f5.fh (Ev.int (Int.natCast_add (e + 1) c).symm (ev_add (i := ((e + 1 : Nat) : Int)) (j := (c : Int)) (ev_var rfl rfl) (ev_ixS hce rfl (ev_var rfl (up f5.ff p1')) (ev_var rfl rfl)))) fun v6 H6 F6 f6 p6 => ?_
      have p6 : v6 = .int ((e + 1 + c : Nat) : Int) := p6
      subst p6
      have fa := fx.trans (f5.trans f6)
      have hl6 := fa.hh _ _ hl
      have fl6 : F6 lo = none := fa.nw lo (by rw [hl]; exact fun z => by cases z) fl
      have usl : us.length < sizeLine := by
        rw [← pq.length, hd]
        exact LB_lt (by show i ≤ 20000; omega)
      refine s_app (P := zL zI ((cs.drop (e + 1)).take (e + 1 + c - (e + 1)))) f6.fh rfl hl6 fl6 usl (ev_slS (Nat.le_add_right _ _) (by omega) (by show _ ≤ 20000; omega) (ev_var rfl (up (f5.ff.trans f6.ff) p1')) (ev_var rfl rfl) (ev_var rfl rfl)) fun v7 H7 F7 f7 p7 fl7 s7 => ?_
      refine ⟨F7, (((fu.trans fa).trans f7).put fl7 nlo), (sf.trans fa.ff).trans f7.ff, e + 1 + c, done ++ [r.take c], zs, us ++ [v7], _, _, rfl, by omega, ?_, ?_, ?_, upd_same, fl7, ?_⟩
      · rw [show k - (i + 1) = m by omega, ← List.drop_drop, ← hrd]
        exact hr2
      · rw [hx, List.append_assoc]
        rfl
      · rw [List.length_append, hd]
        rfl
      · refine paired_app (paired_up (fa.ff.trans f7.ff) pq) (.cons ?_ .nil)
        rw [show e + 1 + c - (e + 1) = c by omega, ← hrd] at p7
        exact p7
    · rintro σ F' H' ⟨fu, sf, e, done, ys, us, x4, x5, rfl, he, hr, hx, hd, hl, fl, pq⟩
      rw [List.length_range, Nat.sub_self] at hr
      cases hr
      rw [List.append_nil] at hx
      rw [← hx] at pq hd
      have add := Fut.add fu nlo hl fl sF
      have ee : cs.length - (cs.drop e).length = e := by
        rw [List.length_drop]
        omega
      refine s_retk add.fh (fun v H4 F4 f4 pv => kk v H4 F4 (add.trans f4) pv) ?_
      show Ev _ _ _ H' (zT [zRows xs, zN (cs.length - (cs.drop e).length)])
      rw [ee]
      refine ev_tup (by simp) (ea_cons (ev_var rfl ⟨lo, us, rfl, upd_same, paired_up (same_upd (Same.refl _) fl) pq, ?_⟩) (ea_cons (ev_var rfl rfl) ea_nil))
      rw [List.length_range] at hd
      show xs.length ≤ 20000
      omega
/-! ### the desk is made -/
def sp_Desk_init (K : PySem.W.Frag) (A : Adr) : Sp := fun vs H Q _ => ∃ (d dx : Addr) (F : Hp), Same F H ∧ vs = [.ref d] ∧ H d = some (.ins A.D dx []) ∧ F d = none ∧ ∀ H2 F', FutB d F F' H H2 → DeskAt A d ⟨[], [], 0⟩ F' H2 → Q .non H2
theorem ok_Desk_init (T : TxD K mg A) : IF P w K mg base CX0 3 A.D "Desk" ["self"] (sp_Desk_init K A) :=
  T.f_Desk_init.if fun f fd Fn => by
    refine Fn.ok sc_Desk_init (fun vs H Q E h => ?_) fun cdv B0 outer s H vs Q E hr h => ?_
    · obtain ⟨d, dx, F, _, rfl, _⟩ := h
      rfl
    · obtain ⟨d, dx, F, sF, rfl, hd, fd0, k⟩ := h
      refine ⟨_, (pss_one (ps_fld (pv 0) (pe_makeF (ok_House_init T.toTxt) (hr.mono (by decide)) pass0 (pa_cons (pe_lst pa_nil) pa_nil)) rfl)), ?_⟩
      refine make_house (K := K) (A := A) (E := E0) (σ := [some (.ref d)]) (tr := tCons (tLst tNil) tNil) (l := []) sF (ea_cons ev_nil ea_nil) fun a H1 F1 f1 na hA => ?_
      have ne : a ≠ d := fun z => by
        rw [z, hd] at na
        cases na
      have hd1 := f1.hh _ _ hd
      have fd1 : F1 d = none := f1.nw d (by rw [hd]; exact fun z => by cases z) fd0
      refine ⟨_, rfl, d, A.D, dx, [], rfl, hd1, T.c_D, T.n_D_house, (by show 0 < 1000; decide), ?_⟩
      exact k _ F1 (FutB.upd f1 fd1) ⟨a, fd1, ⟨dx, upd_same⟩, hA.off (.inr (Ne.symm ne))⟩
end
end G
end

section
set_option Elab.async false
set_option linter.all false
set_option maxRecDepth 100000
namespace G
open PySem PySem.Spec PyProof.Rows L2
/-! ### what is told: the calls' shapes -/
theorem shape_of {w : Int} {ns : List Int} {rows : List (List Int)} {a : List (Int × Int)} {lo hi : Int} {r : List (Int × Int × Nat × Nat)} {k n1 n2 l1 l2 : Nat} {llo lhi : Int} (hf : PyVbwbad.form w = some (a, (0, 0, lo, hi), r, (k, n1, n2, llo, lhi, l1, l2))) (h : PyVbwbad.fits ((w :: ns) :: rows) = true) :
    ns.length = a.length ∧ r.length ≤ rows.length ∧ (rows.length - r.length ≤ n2 ∨ rows.length < k + (rows.length - r.length)) ∧ (r = [] → k = 0 → (∀ x ∈ rows, x.length ≤ l2) ∧ rows.length ≤ n2) ∧ (∀ x y, r = [(x, y, 0, 4000)] → k = 1 → n2 = 0 → ∃ l, rows = [l] ∧ l.length ≤ 4000) := by
  have h : (match PyVbwbad.form w with
    | none => false
    | some (a, (m1, m2, lo, hi), r, (k, n1, n2, llo, lhi, l1, l2)) =>
      let ys := ns.drop a.length
      let ms := (rows.drop k).take (rows.length - r.length)
      let fs := rows.take k ++ rows.drop (k + (rows.length - r.length))
      decide (a.length ≤ ns.length) && PyInside.each a ns && decide (m1 ≤ ys.length) && decide (ys.length ≤ m2) && ys.all (PyInside.within lo hi) && decide (r.length ≤ rows.length) && decide (n1 ≤ ms.length) && decide (ms.length ≤ n2) && ms.all (fun l => decide (l1 ≤ l.length) && decide (l.length ≤ l2) && l.all (PyInside.within llo lhi)) && PyInside.lists r fs) = true := h
  rw [hf] at h
  have h : (decide (a.length ≤ ns.length) && PyInside.each a ns && decide (0 ≤ (ns.drop a.length).length) && decide ((ns.drop a.length).length ≤ 0) && (ns.drop a.length).all (PyInside.within lo hi) && decide (r.length ≤ rows.length) && decide (n1 ≤ ((rows.drop k).take (rows.length - r.length)).length) && decide (((rows.drop k).take (rows.length - r.length)).length ≤ n2) && ((rows.drop k).take (rows.length - r.length)).all (fun l => decide (l1 ≤ l.length) && decide (l.length ≤ l2) && l.all (PyInside.within llo lhi)) && PyInside.lists r (rows.take k ++ rows.drop (k + (rows.length - r.length)))) = true := h
  simp only [Bool.and_eq_true, decide_eq_true_eq] at h
  obtain ⟨⟨⟨⟨⟨⟨⟨⟨⟨h1, _⟩, _⟩, h4⟩, _⟩, h6⟩, _⟩, h8⟩, h9⟩, h10⟩ := h
  rw [List.length_drop] at h4
  refine ⟨by omega, h6, ?_, fun er ek => ?_, fun x y er ek en => ?_⟩
  · rw [List.length_take, List.length_drop] at h8
    omega
  · subst er ek
    rw [List.drop_zero, List.length_nil, Nat.sub_zero, List.take_length] at h8 h9
    refine ⟨fun x hx => ?_, h8⟩
    have := List.all_eq_true.mp h9 x hx
    simp only [Bool.and_eq_true, decide_eq_true_eq] at this
    exact this.1.2
  · subst er ek en
    have h6 : 1 ≤ rows.length := h6
    have h8 : ((rows.drop 1).take (rows.length - 1)).length ≤ 0 := h8
    rw [List.length_take, List.length_drop] at h8
    have hl : rows.length = 1 := by omega
    match rows, hl with
    | [l], _ =>
      refine ⟨l, rfl, ?_⟩
      have h10 : (decide (0 ≤ l.length) && decide (l.length ≤ 4000) && l.all (PyInside.within x y) && true) = true := h10
      simp only [Bool.and_eq_true, decide_eq_true_eq] at h10
      exact h10.1.1.2
theorem len0 {l : List Int} (h : l.length = 0) : l = [] := List.eq_nil_of_length_eq_zero h
theorem len1 {l : List Int} (h : l.length = 1) : ∃ a, l = [a] := by
  match l, h with
  | [a], _ => exact ⟨a, rfl⟩
theorem len2 {l : List Int} (h : l.length = 2) : ∃ a b, l = [a, b] := by
  match l, h with
  | [a, b], _ => exact ⟨a, b, rfl⟩
/-- the shapes -/
inductive Sh : Int → List Int → List (List Int) → Prop
  | begin {l} : l.length ≤ 4000 → Sh 0 [] [l]
  | add {i rows} : (∀ r ∈ rows, r.length ≤ 4000) → Sh 1 [i] rows
  | vec {w i l} : (w = 2 ∨ w = 3 ∨ w = 4 ∨ w = 11) → l.length ≤ 4000 → Sh w [i] [l]
  | bat {w i} : (w = 5 ∨ w = 6) → Sh w [i] []
  | cop {j n} : Sh 7 [j, n] []
  | none {w} : (w = 8 ∨ w = 9 ∨ w = 10 ∨ w = 14 ∨ w = 16 ∨ w = 20) → Sh w [] []
  | room {i j} : Sh 12 [i, j] []
  | one {w j} : (w = 13 ∨ w = 17) → Sh w [j] []
  | row {w l} : (w = 15 ∨ w = 18 ∨ w = 19) → l.length ≤ 4000 → Sh w [] [l]
theorem no_rows {rows : List (List Int)} (h : rows.length ≤ 0) : rows = [] := List.eq_nil_of_length_eq_zero (by omega)
theorem sh_of {w : Int} {ns : List Int} {rows : List (List Int)} (h : PyVbwbad.fits ((w :: ns) :: rows) = true) : Sh w ns rows := by
  have in20 : 0 ≤ w ∧ w ≤ 20 := by
    apply Classical.byContradiction
    intro hn
    have hf : PyVbwbad.form w = Option.none := by
      unfold PyVbwbad.form
      repeat (rw [if_neg (by omega)])
    have h : (match PyVbwbad.form w with
      | Option.none => false
      | some (a, (m1, m2, lo, hi), r, (k, n1, n2, llo, lhi, l1, l2)) => _) = true := h
    rw [hf] at h
    cases h
  have hw : w = 0 ∨ w = 1 ∨ w = 2 ∨ w = 3 ∨ w = 4 ∨ w = 5 ∨ w = 6 ∨ w = 7 ∨ w = 8 ∨ w = 9 ∨ w = 10 ∨ w = 11 ∨ w = 12 ∨ w = 13 ∨ w = 14 ∨ w = 15 ∨ w = 16 ∨ w = 17 ∨ w = 18 ∨ w = 19 ∨ w = 20 := by omega
  rcases hw with rfl | rfl | rfl | rfl | rfl | rfl | rfl | rfl | rfl | rfl | rfl | rfl | rfl | rfl | rfl | rfl | rfl | rfl | rfl | rfl | rfl
  · obtain ⟨a, _, _, _, b⟩ := shape_of (by rfl) h
    obtain ⟨l, rfl, hl⟩ := b _ _ rfl rfl rfl
    rw [len0 a]
    exact .begin hl
  · obtain ⟨a, _, _, b, _⟩ := shape_of (by rfl) h
    obtain ⟨i, rfl⟩ := len1 a
    exact .add (b rfl rfl).1
  all_goals first
    | (obtain ⟨a, _, _, _, b⟩ := shape_of (by rfl) h
       obtain ⟨l, rfl, hl⟩ := b _ _ rfl rfl rfl
       first
         | (obtain ⟨i, rfl⟩ := len1 a
            exact .vec (by decide) hl)
         | (rw [len0 a]
            exact .row (by decide) hl))
    | (obtain ⟨a, _, _, b, _⟩ := shape_of (by rfl) h
       have hr := no_rows (b rfl rfl).2
       subst hr
       first
         | (obtain ⟨i, rfl⟩ := len1 a
            first
              | exact .bat (by decide)
              | exact .one (by decide))
         | (obtain ⟨i, j, rfl⟩ := len2 a
            first
              | exact .cop
              | exact .room)
         | (rw [len0 a]
            exact .none (by decide)))
theorem sh_fit {w : Int} {ns : List Int} {rows : List (List Int)} (h : Sh w ns rows) : Fit w ns rows := by
  cases h with
  | begin hl => exact ⟨fun z => absurd z (by decide), fun z => absurd z (by decide), fun z => absurd z (by decide), fun _ => by simp, fun r hr => by rw [List.mem_singleton.mp hr]; exact hl, fun z => absurd z (by decide), fun z => absurd z (by decide)⟩
  | add hl => exact ⟨fun _ => by simp, fun z => absurd z (by decide), fun z => absurd z (by decide), fun z => absurd z (by decide), hl, fun z => absurd z (by decide), fun z => absurd z (by decide)⟩
  | vec hw hl => exact ⟨fun _ => by simp, fun z => by omega, fun _ => by simp, fun _ => by simp, fun r hr => by rw [List.mem_singleton.mp hr]; exact hl, fun z => by omega, fun _ => by simp⟩
  | bat hw => exact ⟨fun _ => by simp, fun z => by omega, fun z => by omega, fun z => by omega, fun r hr => (by cases hr), fun z => by omega, fun _ => by simp⟩
  | cop => exact ⟨fun _ => by simp, fun z => absurd z (by decide), fun z => absurd z (by decide), fun z => absurd z (by decide), fun r hr => (by cases hr), fun _ => by simp, fun _ => by simp⟩
  | none hw => exact ⟨fun z => by
      rcases hw with rfl | rfl | rfl | rfl | rfl | rfl <;> exact absurd z (by decide), fun z => by omega, fun z => by omega, fun z => by omega, fun r hr => (by cases hr), fun z => by omega, fun z => by omega⟩
  | room => exact ⟨fun _ => by simp, fun _ => by simp, fun z => absurd z (by decide), fun z => absurd z (by decide), fun r hr => (by cases hr), fun _ => by simp, fun _ => by simp⟩
  | one hw => exact ⟨fun _ => by simp, fun z => by omega, fun z => by omega, fun z => by omega, fun r hr => (by cases hr), fun z => by omega, fun _ => by simp⟩
  | row hw hl => exact ⟨fun z => by
      rcases hw with rfl | rfl | rfl <;> exact absurd z (by decide), fun z => by omega, fun z => by omega, fun _ => by simp, fun r hr => by rw [List.mem_singleton.mp hr]; exact hl, fun z => by omega, fun z => by omega⟩
end G
end

section
set_option Elab.async false
set_option linter.all false
set_option maxRecDepth 100000
namespace G
open PySem PySem.Spec PyProof.Rows L2
/-! ### what is answered is what the document says -/
theorem withVec_of (s : S) (l : List Int) (g : Vec → Ans) (h : Vec → S × List Int) (e : ∀ v, Vbwbad.vecIn s l = some v → finA s (g v) = h v) : finA s (vq s l g) = Vbwbad.withVec s l h := by
  unfold Vbwbad.withVec
  cases q : Vbwbad.vecIn s l with
  | none =>
    rw [vq_none q]
    rfl
  | some v =>
    rw [vq_some q]
    exact e v q
theorem withBatch_of {s : S} {w i : Int} {ns : List Int} {rows : List (List Int)} (hw : w ∈ withL) (h12 : ¬ w = 12) (ho : w ∈ ofL) (h : B → S × List Int) (e : ∀ b, b ∈ s.batches → finA s (ofBatchO s w b (i :: ns) rows) = h b) : finA s (doneO s w (i :: ns) rows) = Vbwbad.withBatch s i h := by
  unfold doneO Vbwbad.withBatch
  have ei : Vbwbad.okId i = idB i := rfl
  rw [ei, List.headD_cons]
  by_cases c : idB i = false
  · rw [if_pos ⟨hw, c⟩, if_pos c]
    rfl
  · rw [if_neg fun z => c z.2, if_neg c, if_neg fun z => h12 z.1, if_pos ho]
    cases q : Vbwbad.batchOf s i.toNat with
    | none => rfl
    | some b => exact e b (batchOf_mem' q).1
theorem safe_given {s : S} {b : B} {v : Vec} (wf : WF s) (hb : b ∈ s.batches) (hv : v.length = s.totals.length) : Vbwbad.safe (Vbwbad.given s b v) = (stuckL s b v).isEmpty := by
  rw [safe_eq, free_given' wf hb hv, ← alike_safe (give_alike s b v)]
  rfl
theorem eq_ask {s : S} {b : B} {l : List Int} (wf : WF s) (hb : b ∈ s.batches) : finA s (askO s b l) = Vbwbad.withVec s l fun v =>
      if b.want.isSome = true then Vbwbad.ans s [-7]
      else if Vbwbad.mayAsk b v = false then Vbwbad.ans s [-4]
      else if Vbwbad.grantable s b v = true then (Vbwbad.given s b v, [1])
      else ((let t := Vbwbad.put s ⟨b.id, b.alts, b.holds, some (s.next, v)⟩; ⟨t.totals, t.batches, s.next + 1⟩), [0]) := by
  refine withVec_of _ _ _ _ fun v hv => ?_
  have hvl := (vecIn_some hv).2.2.2
  by_cases c1 : b.want.isSome = true
  · rw [if_pos c1, if_pos c1]
    rfl
  · rw [if_neg c1, if_neg c1]
    by_cases c2 : Vbwbad.mayAsk b v = false
    · rw [if_pos c2, if_pos c2]
      rfl
    · rw [if_neg c2, if_neg c2, ← canGrant_eq wf hb hvl]
      have hw : b.want = none := by
        cases q : b.want with
        | none => rfl
        | some x =>
          rw [q] at c1
          exact absurd rfl c1
      by_cases c3 : canGrantP s b v = true
      · rw [if_pos c3, given_none hw]
        show (askNext s b v, [Vbwbad.bit (canGrantP s b v)]) = _
        unfold askNext
        rw [if_pos c3, c3]
        rfl
      · rw [if_neg c3]
        show (askNext s b v, [Vbwbad.bit (canGrantP s b v)]) = _
        have c3' : canGrantP s b v = false := by simpa using c3
        unfold askNext
        rw [if_neg c3, c3']
        rfl
theorem eq_give {s : S} {b : B} {l : List Int} : finA s (giveO s b l) = Vbwbad.withVec s l fun v =>
      if Vbwbad.mayAsk b v = false then Vbwbad.ans s [-4]
      else if Vbwbad.within v (Vbwbad.free s) = false then Vbwbad.ans s [-5]
      else (Vbwbad.put s ⟨b.id, b.alts, Vbwbad.plus b.holds v, b.want⟩, [Vbwbad.bit (Vbwbad.safe (Vbwbad.put s ⟨b.id, b.alts, Vbwbad.plus b.holds v, b.want⟩))]) := by
  refine withVec_of _ _ _ _ fun v hv => ?_
  by_cases c1 : Vbwbad.mayAsk b v = false
  · rw [if_pos c1, if_pos c1]
    rfl
  · rw [if_neg c1, if_neg c1]
    by_cases c2 : Vbwbad.within v (Vbwbad.free s) = false
    · rw [if_pos c2, if_pos c2]
      rfl
    · rw [if_neg c2, if_neg c2, safe_eq]
      rfl
theorem eq_back {s : S} {b : B} {l : List Int} : finA s (backO s b l) = Vbwbad.withVec s l fun v =>
      if Vbwbad.within v b.holds = false then Vbwbad.ans s [-4]
      else Vbwbad.told (Vbwbad.reconsidered (Vbwbad.put s ⟨b.id, b.alts, Vbwbad.minus b.holds v, b.want⟩)) := by
  refine withVec_of _ _ _ _ fun v hv => ?_
  by_cases c1 : Vbwbad.within v b.holds = false
  · rw [if_pos c1, if_pos c1]
    rfl
  · rw [if_neg c1, if_neg c1]
    rfl
theorem eq_end {s : S} {b : B} : finA s (endO s b) = Vbwbad.told (Vbwbad.reconsidered (Vbwbad.without s [b.id])) := by
  have e : Vbwbad.without s [b.id] = ⟨s.totals, wo s.batches b.id, s.next⟩ := by
    unfold Vbwbad.without wo
    congr 1
    apply List.filter_congr
    intro y _
    by_cases h : y.id = b.id
    · simp [h]
    · simp [h]
  rw [e]
  rfl
theorem eq_drop {s : S} {b : B} : finA s (dropO s b) = if b.want.isNone = true then Vbwbad.ans s [-7] else (Vbwbad.put s ⟨b.id, b.alts, b.holds, none⟩, [0]) := by
  unfold dropO
  by_cases c : b.want.isNone = true
  · rw [if_pos c, if_pos c]
    rfl
  · rw [if_neg c, if_neg c]
    rfl
theorem eq_could {s : S} {b : B} {l : List Int} (wf : WF s) (hb : b ∈ s.batches) : finA s (couldO s b l) = Vbwbad.withVec s l fun v => Vbwbad.ans s (if Vbwbad.mayAsk b v = false then [1] else if Vbwbad.within v (Vbwbad.free s) = false then [2] else if Vbwbad.safe (Vbwbad.given s b v) = true then [0] else 3 :: Vbwbad.listed (Vbwbad.stuck (Vbwbad.given s b v))) := by
  refine withVec_of _ _ _ _ fun v hv => ?_
  have hvl := (vecIn_some hv).2.2.2
  rw [safe_given wf hb hvl, stuck_given wf hb hvl]
  rfl
/-! nothing asked: safe -/
theorem grant_zero {s : S} {b : B} (wf : WF s) (hb : b ∈ s.batches) : Vbwbad.grantable s b (Vbwbad.zero s) = safeB (Vbwbad.free s) s.batches := by
  have hz := zero_len s
  rw [← canGrant_eq wf hb hz]
  unfold canGrantP
  have e0 : ∀ i, (Vbwbad.zero s).getD i 0 = 0 := fun i => by
    rw [zero_rep]
    simp [List.getD_eq_getElem?_getD, List.getElem?_replicate]
    split <;> rfl
  have e1 : Vbwbad.within (Vbwbad.zero s) (Vbwbad.free s) = true := by
    rw [within_iff (k := s.totals.length) hz (free_len wf.len)]
    intro i _
    rw [e0]
    exact Nat.zero_le _
  have e2 : Vbwbad.minus (Vbwbad.free s) (Vbwbad.zero s) = Vbwbad.free s := by
    refine vec_ext (k := s.totals.length) (minus_len (free_len wf.len) hz) (free_len wf.len) fun i hi => ?_
    rw [minus_get (free_len wf.len) hz, e0, Nat.sub_zero]
  have e3 : giveB s b (Vbwbad.zero s) = s.batches := by
    unfold giveB
    conv => rhs; rw [← List.map_id s.batches]
    apply List.map_congr_left
    intro x hx
    by_cases q : x.id = b.id
    · rw [if_pos q]
      have ex : x = b := uniq_eq wf.uniq hx hb q
      subst ex
      unfold moreOf
      have : Vbwbad.plus x.holds (Vbwbad.zero s) = x.holds := by
        refine vec_ext (k := s.totals.length) (plus_len (wf.len x hx).1 hz) (wf.len x hx).1 fun i hi => ?_
        rw [plus_get (wf.len x hx).1 hz, e0, Nat.add_zero]
      rw [this]
      rfl
    · rw [if_neg q]
      rfl
  rw [e1, e2, e3, Bool.true_and]
theorem okJ_eq (s : S) (j : Int) : Vbwbad.okJ s j = kindB s j := by
  unfold Vbwbad.okJ Vbwbad.inR kindB Vbwbad.nat
  congr 1
  apply decide_eq_decide.mpr
  show j ≤ (s.totals.length : Int) - 1 ↔ _
  omega
theorem eq_room {s : S} {i j : Int} (wf : WF s) : finA s (doneO s 12 [i, j] []) = if (Vbwbad.okId i && Vbwbad.okJ s j) = false then Vbwbad.ans s [-1] else Vbwbad.withBatch s i fun b => if Vbwbad.grantable s b (Vbwbad.zero s) = false then Vbwbad.ans s [-8] else Vbwbad.ans s [Vbwbad.nat (Vbwbad.room s b j.toNat)] := by
  rw [okJ_eq]
  have ei : Vbwbad.okId i = idB i := rfl
  unfold doneO Vbwbad.withBatch
  rw [ei]
  show finA s (if (12 : Int) ∈ withL ∧ idB i = false then _ else if (12 : Int) = 12 ∧ kindB s j = false then _ else _) = _
  by_cases c : idB i = false
  · rw [if_pos ⟨by decide, c⟩, c, if_pos (by rfl)]
    rfl
  · have c' : idB i = true := by simpa using c
    rw [if_neg fun z => c z.2]
    by_cases c2 : kindB s j = false
    · rw [if_pos ⟨rfl, c2⟩, c2, c', if_pos (by rfl)]
      rfl
    · have c2' : kindB s j = true := by simpa using c2
      rw [if_neg fun z => c2 z.2, c2', c', if_pos (by decide), if_neg (by decide), if_neg (by decide)]
      show finA s (match Vbwbad.batchOf s i.toNat with
        | none => .error (-10)
        | some b => ofBatchO s 12 b [i, j] []) = _
      cases q : Vbwbad.batchOf s i.toNat with
      | none => rfl
      | some b =>
        have hb := (batchOf_mem' q).1
        obtain ⟨k, rfl, hk⟩ := kind_nat c2'
        show finA s (roomO s b (k : Int).toNat) = if Vbwbad.grantable s b (Vbwbad.zero s) = false then _ else _
        rw [grant_zero wf hb]
        unfold roomO
        by_cases c3 : safeB (Vbwbad.free s) s.batches = false
        · rw [if_pos c3, if_pos c3]
          rfl
        · rw [if_neg c3, if_neg c3, Int.toNat_natCast, ← room_eq wf hb hk]
          rfl
end G
end

section
set_option Elab.async false
set_option linter.all false
set_option maxRecDepth 100000
namespace G
open PySem PySem.Spec PyProof.Rows L2
theorem done_row {s : S} {w : Int} {ns : List Int} {rows : List (List Int)} (h1 : ¬ w ∈ withL) (h2 : ¬ w = 12) (h3 : ¬ w ∈ ofL) (h4 : w ∈ rowL) : doneO s w ns rows = ofRowO s w ns rows := by
  unfold doneO
  rw [if_neg fun z => h1 z.1, if_neg fun z => h2 z.1, if_neg h3, if_pos h4]
theorem done_asked {s : S} {w : Int} {ns : List Int} {rows : List (List Int)} (h1 : ¬ w ∈ withL) (h2 : ¬ w = 12) (h3 : ¬ w ∈ ofL) (h4 : ¬ w ∈ rowL) : doneO s w ns rows = askedO s w ns := by
  unfold doneO
  rw [if_neg fun z => h1 z.1, if_neg fun z => h2 z.1, if_neg h3, if_neg h4]
theorem eq_begin {s : S} {l : List Int} : finA s (doneO s 0 [] [l]) = Vbwbad.step s [[0], l] := by
  rw [done_row (by decide) (by decide) (by decide) (by decide)]
  show finA s (beginO l) = if begB l = false then Vbwbad.ans s [-2] else (⟨l.map Int.toNat, [], 0⟩, [0])
  unfold beginO
  by_cases c : begB l = true
  · rw [if_pos c, c, if_neg (by decide)]
    rfl
  · have c' : begB l = false := by simpa using c
    rw [if_neg c, if_pos c']
    rfl
theorem vecsIn_some {s : S} : ∀ {rows : List (List Int)} {l : List Vec}, Vbwbad.vecsIn s rows = some l → l = rows.map (fun r => r.map Int.toNat) ∧ ∀ r ∈ rows, Vbwbad.vecIn s r = some (r.map Int.toNat)
  | [], l, h => by
    cases h
    exact ⟨rfl, fun r hr => by cases hr⟩
  | x :: r, l, h => by
    unfold Vbwbad.vecsIn at h
    cases hx : Vbwbad.vecIn s x with
    | none =>
      rw [hx] at h
      cases h
    | some v =>
      cases hr : Vbwbad.vecsIn s r with
      | none =>
        rw [hx, hr] at h
        cases h
      | some w =>
        rw [hx, hr] at h
        cases h
        obtain ⟨e, f⟩ := vecsIn_some hr
        have ev := (vecIn_some hx).1
        subst e ev
        exact ⟨rfl, fun y hy => by
          rcases List.mem_cons.mp hy with rfl | hy
          · exact hx
          · exact f y hy⟩
theorem vecsIn_none {s : S} : ∀ {rows : List (List Int)}, Vbwbad.vecsIn s rows = none → rows.all (okRow s) = false
  | [], h => by cases h
  | x :: r, h => by
    unfold Vbwbad.vecsIn at h
    rw [List.all_cons]
    cases hx : Vbwbad.vecIn s x with
    | none =>
      unfold okRow
      rw [hx]
      rfl
    | some v =>
      cases hr : Vbwbad.vecsIn s r with
      | none => rw [vecsIn_none hr, Bool.and_false]
      | some w =>
        rw [hx, hr] at h
        cases h
theorem vecsIn_all {s : S} {rows : List (List Int)} (h : ∀ r ∈ rows, Vbwbad.vecIn s r = some (r.map Int.toNat)) : rows.all (okRow s) = (rows.map (fun r => r.map Int.toNat)).all fun v => Vbwbad.within v s.totals := by
  induction rows with
  | nil => rfl
  | cons x r ih =>
    rw [List.all_cons, List.map_cons, List.all_cons, ih fun y hy => h y (List.mem_cons_of_mem _ hy)]
    congr 1
    unfold okRow
    rw [h x (List.mem_cons_self ..)]
    rfl
theorem eq_add {s : S} {i : Int} {rows : List (List Int)} : finA s (doneO s 1 [i] rows) = Vbwbad.step s ([1, i] :: rows) := by
  show finA s (doneO s 1 [i] rows) = if idB i = false then Vbwbad.ans s [-1] else (match Vbwbad.vecsIn s rows with
    | none => Vbwbad.ans s [-2]
    | some l => if (decide (1 ≤ l.length) && (decide (l.length ≤ 4) && l.all fun v => Vbwbad.within v s.totals)) = false then Vbwbad.ans s [-2]
      else if (Vbwbad.batchOf s i.toNat).isSome = true then Vbwbad.ans s [-3]
      else if 10 ≤ s.batches.length then Vbwbad.ans s [-6]
      else (⟨s.totals, s.batches ++ [⟨i.toNat, l, Vbwbad.zero s, none⟩], s.next⟩, [0]))
  unfold doneO
  show finA s (if (1 : Int) ∈ withL ∧ idB i = false then _ else _) = _
  by_cases c : idB i = false
  · rw [if_pos ⟨by decide, c⟩, if_pos c]
    rfl
  · rw [if_neg fun z => c z.2, if_neg c, if_neg fun z => absurd z.1 (by decide), if_neg (by decide), if_pos (by decide)]
    show finA s (addO s i.toNat rows) = _
    unfold addO
    cases q : Vbwbad.vecsIn s rows with
    | none =>
      rw [if_pos (vecsIn_none q)]
      show finA s (if _ then _ else _) = (s, [-2])
      split <;> rfl
    | some l =>
      obtain ⟨e, f⟩ := vecsIn_some q
      rw [vecsIn_all f, ← e]
      have el : l.length = rows.length := by rw [e, List.length_map]
      dsimp only
      rw [el]
      by_cases c1 : (decide (1 ≤ rows.length) && decide (rows.length ≤ 4)) = false
      · rw [if_pos c1, if_pos (by rw [← Bool.and_assoc, c1, Bool.false_and])]
        rfl
      · have c1' : (decide (1 ≤ rows.length) && decide (rows.length ≤ 4)) = true := by simpa using c1
        rw [if_neg c1, ← Bool.and_assoc, c1', Bool.true_and]
        by_cases c2 : (l.all fun v => Vbwbad.within v s.totals) = false
        · rw [if_pos c2, if_pos c2]
          rfl
        · rw [if_neg c2, if_neg c2]
          by_cases c3 : (Vbwbad.batchOf s i.toNat).isSome = true
          · rw [if_pos c3, if_pos c3]
            rfl
          · rw [if_neg c3, if_neg c3]
            by_cases c4 : 10 ≤ s.batches.length
            · rw [if_pos c4, if_pos c4]
              rfl
            · rw [if_neg c4, if_neg c4]
              rfl
theorem eq_cop {s : S} {j n : Int} : finA s (doneO s 7 [j, n] []) = Vbwbad.step s [[7, j, n]] := by
  rw [done_asked (by decide) (by decide) (by decide) (by decide)]
  show finA s (copO s j n) = if (Vbwbad.okJ s j && (decide (1 ≤ n) && decide (n ≤ 1000000000))) = false then Vbwbad.ans s [-1] else if 1000000000 < s.totals.getD j.toNat 0 + n.toNat then Vbwbad.ans s [-6] else Vbwbad.told (Vbwbad.reconsidered (Vbwbad.more s j.toNat n.toNat))
  rw [okJ_eq]
  unfold copO
  by_cases c : kindB s j = false
  · rw [if_pos c, c, if_pos (by rfl)]
    rfl
  · have c' : kindB s j = true := by simpa using c
    rw [if_neg c, c', Bool.true_and]
    by_cases c2 : (decide (1 ≤ n) && decide (n ≤ 1000000000)) = false
    · rw [if_pos c2, if_pos c2]
      rfl
    · rw [if_neg c2, if_neg c2]
      by_cases c3 : 1000000000 < s.totals.getD j.toNat 0 + n.toNat
      · rw [if_pos c3, if_pos c3]
        rfl
      · rw [if_neg c3, if_neg c3]
        rfl
theorem eq_safe {s : S} : finA s (doneO s 8 [] []) = Vbwbad.step s [[8]] := by
  rw [done_asked (by decide) (by decide) (by decide) (by decide)]
  show finA s (safeO s) = Vbwbad.ans s (if Vbwbad.safe s = true then 1 :: Vbwbad.listed (Vbwbad.endedAll s).1 else 0 :: Vbwbad.listed (Vbwbad.stuck s))
  rw [safe_eq, endedAll_eq, stuck_eq]
  rfl
theorem eq_locked {s : S} : finA s (doneO s 9 [] []) = Vbwbad.step s [[9]] := by
  rw [done_asked (by decide) (by decide) (by decide) (by decide)]
  rfl
theorem eq_free {s : S} : finA s (doneO s 10 [] []) = Vbwbad.step s [[10]] := by
  rw [done_asked (by decide) (by decide) (by decide) (by decide)]
  rfl
theorem eq_lack {s : S} {j : Int} (wf : WF s) : finA s (doneO s 13 [j] []) = Vbwbad.step s [[13, j]] := by
  rw [done_asked (by decide) (by decide) (by decide) (by decide)]
  show finA s (lackO s j) = if Vbwbad.okJ s j = false then Vbwbad.ans s [-1] else Vbwbad.ans s (match Vbwbad.lack s j.toNat with
    | none => [0]
    | some n => [1, Vbwbad.nat n])
  rw [okJ_eq, lack_eq wf]
  unfold lackO
  by_cases c : kindB s j = false
  · rw [if_pos c, if_pos c]
    rfl
  · rw [if_neg c, if_neg c]
    cases lackP s j.toNat with
    | none => rfl
    | some n => rfl
theorem eq_fewest {s : S} (wf : WF s) : finA s (doneO s 14 [] []) = Vbwbad.step s [[14]] := by
  rw [done_asked (by decide) (by decide) (by decide) (by decide)]
  show (s, Vbwbad.listed ((victimsP s).headD [])) = Vbwbad.ans s (Vbwbad.listed (Vbwbad.fewest s))
  rw [fewest_eq wf]
  rfl
theorem eq_many {s : S} : finA s (doneO s 16 [] []) = Vbwbad.step s [[16]] := by
  rw [done_asked (by decide) (by decide) (by decide) (by decide)]
  show (s, [((manyOf s : Nat) : Int)]) = Vbwbad.ans s [Vbwbad.nat (Vbwbad.orders s)]
  rw [orders_eq]
  rfl
end G
end

section
set_option Elab.async false
set_option linter.all false
set_option maxRecDepth 100000
namespace G
open PySem PySem.Spec PyProof.Rows L2
/-! ### an order's places -/
theorem orderP_lt (bs : List B) (f : Vec) : ∀ (n m : Nat) (left : List Nat), (∀ i ∈ left, i < bs.length) → ∀ i ∈ orderP bs f n left m, i < bs.length
  | 0, m, left, h, i, hi => by cases hi
  | n + 1, m, left, h, i, hi => by
    unfold orderP at hi
    by_cases c : left = []
    · rw [if_pos c] at hi
      cases hi
    · rw [if_neg c] at hi
      rcases List.mem_cons.mp hi with e | hi
      · rw [e]
        unfold nextPlace
        cases q : pick (fun k => manyP bs f (lessOne left k)) (nextOnes bs f left) m with
        | none =>
          cases left with
          | nil => exact absurd rfl c
          | cons x r => exact h x (List.mem_cons_self ..)
        | some y =>
          obtain ⟨k, j⟩ := y
          exact h k (mem_next (pick_mem q).1)
      · exact orderP_lt bs f n _ _ (fun i hi => h i (List.mem_filter.mp hi).1) i hi
theorem places_ids (bs : List B) : ∀ l : List Nat, (∀ i ∈ l, i < bs.length) → (l.map fun i => Vbwbad.nat ((bs.map fun b => b.id).getD i 0)) = (Vbwbad.ids (l.filterMap fun i => bs[i]?)).map fun n : Nat => (n : Int)
  | [], _ => rfl
  | i :: r, h => by
    have hi := h i (List.mem_cons_self ..)
    have e : bs[i]? = some bs[i] := List.getElem?_eq_getElem hi
    rw [List.filterMap_cons, e, List.map_cons, places_ids bs r fun j hj => h j (List.mem_cons_of_mem _ hj)]
    show _ = (bs[i].id : Int) :: _
    congr 1
    show (((bs.map fun b => b.id).getD i 0 : Nat) : Int) = _
    rw [List.getD_eq_getElem?_getD, List.getElem?_map, e]
    rfl
theorem eq_order {s : S} {k : Int} : finA s (doneO s 17 [k] []) = Vbwbad.step s [[17, k]] := by
  rw [done_asked (by decide) (by decide) (by decide) (by decide)]
  show finA s (orderO s k) = if (decide (0 ≤ k) && decide (k ≤ 1000000000)) = false then Vbwbad.ans s [-1] else if Vbwbad.orders s ≤ k.toNat then Vbwbad.ans s [-10] else Vbwbad.ans s ((Vbwbad.kth s (Vbwbad.table s) s.batches.length 0 k.toNat).map fun i => Vbwbad.nat ((s.batches.map fun b => b.id).getD i 0))
  rw [orders_eq]
  unfold orderO
  by_cases c : (decide (0 ≤ k) && decide (k ≤ 1000000000)) = false
  · rw [if_pos c, if_pos c]
    rfl
  · rw [if_neg c, if_neg c]
    show finA s (if manyOf s ≤ k.toNat then _ else _) = if manyOf s ≤ k.toNat then _ else _
    by_cases c2 : manyOf s ≤ k.toNat
    · rw [if_pos c2, if_pos c2]
      rfl
    · rw [if_neg c2, if_neg c2]
      have hz := leftOf_zero s.batches.length
      have e := kth_eq s s.batches.length 0 k.toNat (Nat.two_pow_pos _) (by rw [hz, List.length_range]) (by
        unfold cntM
        rw [hz]
        unfold manyOf at c2
        omega)
      rw [hz] at e
      rw [e, places_ids _ _ (orderP_lt _ _ _ _ _ fun i hi => List.mem_range.mp hi)]
      rfl
/-! ### batches that there are -/
theorem mem_there {s : S} {x : Int} (wf : WF s) : x ∈ (Vbwbad.ids s.batches).map (fun n : Nat => (n : Int)) ↔ (Vbwbad.okId x = true ∧ (Vbwbad.batchOf s x.toNat).isSome = true) := by
  constructor
  · intro h
    obtain ⟨n, hn, rfl⟩ := List.mem_map.mp h
    obtain ⟨b, hb, rfl⟩ := List.mem_map.mp hn
    obtain ⟨h1, h2⟩ := wf.okid b hb
    refine ⟨?_, ?_⟩
    · unfold Vbwbad.okId Vbwbad.inR
      rw [Bool.and_eq_true, decide_eq_true_eq, decide_eq_true_eq]
      exact ⟨by omega, by omega⟩
    · rw [Int.toNat_natCast, batchOf_mem wf.uniq hb]
      rfl
  · rintro ⟨h1, h2⟩
    unfold Vbwbad.okId Vbwbad.inR at h1
    rw [Bool.and_eq_true, decide_eq_true_eq, decide_eq_true_eq] at h1
    obtain ⟨b, hb⟩ := Option.isSome_iff_exists.mp h2
    obtain ⟨hm, hi⟩ := batchOf_mem' hb
    refine List.mem_map.mpr ⟨x.toNat, List.mem_map.mpr ⟨b, hm, hi⟩, by omega⟩
theorem there_cons {s : S} {x : Int} {r : List Int} (wf : WF s) : thereB s (x :: r) = true ↔ (Vbwbad.okId x = true ∧ (Vbwbad.batchOf s x.toNat).isSome = true) ∧ x ∉ r ∧ thereB s r = true := by
  unfold thereB
  rw [Bool.and_eq_true, Bool.and_eq_true, List.all_cons, Bool.and_eq_true, decide_eq_true_eq, decide_eq_true_eq, decide_eq_true_eq, List.nodup_cons, mem_there wf]
  constructor
  · rintro ⟨⟨a, b⟩, c, d⟩
    exact ⟨a, c, b, d⟩
  · rintro ⟨a, c, b, d⟩
    exact ⟨⟨a, b⟩, c, d⟩
theorem nat_contains {x : Int} {r : List Int} (hx : 0 ≤ x) (hr : ∀ y ∈ r, 0 ≤ y) : (r.map Int.toNat).contains x.toNat = false ↔ x ∉ r := by
  rw [← Bool.not_eq_true, List.contains_iff_mem]
  refine not_congr ?_
  constructor
  · intro h
    obtain ⟨y, hy, e⟩ := List.mem_map.mp h
    have := hr y hy
    have : y = x := by omega
    exact this ▸ hy
  · exact fun h => List.mem_map.mpr ⟨x, h, rfl⟩
theorem okId_nn {x : Int} (h : Vbwbad.okId x = true) : 0 ≤ x := by
  unfold Vbwbad.okId Vbwbad.inR at h
  rw [Bool.and_eq_true, decide_eq_true_eq, decide_eq_true_eq] at h
  omega
theorem idsIn_eq {s : S} (wf : WF s) : ∀ l : List Int, Vbwbad.idsIn s l = if thereB s l = true then some (l.map Int.toNat) else none
  | [] => rfl
  | x :: r => by
    unfold Vbwbad.idsIn
    rw [idsIn_eq wf r]
    by_cases c : thereB s r = true
    · rw [if_pos c]
      have hnn := (there_is c).1
      dsimp only
      by_cases d : thereB s (x :: r) = true
      · obtain ⟨⟨a, b⟩, e, _⟩ := (there_cons wf).mp d
        rw [if_pos d, if_pos ⟨a, b, (nat_contains (okId_nn a) hnn).mpr e⟩]
        rfl
      · rw [if_neg d, if_neg]
        rintro ⟨a, b, e⟩
        exact d ((there_cons wf).mpr ⟨⟨a, b⟩, (nat_contains (okId_nn a) hnn).mp e, c⟩)
    · rw [if_neg c, if_neg fun d => c ((there_cons wf).mp d).2.2]
theorem eq_check {s : S} {l : List Int} (wf : WF s) : finA s (doneO s 18 [] [l]) = Vbwbad.step s [[18], l] := by
  rw [done_row (by decide) (by decide) (by decide) (by decide)]
  show finA s (checkO s l) = (match Vbwbad.idsIn s l with
    | none => Vbwbad.ans s [-2]
    | some x => Vbwbad.ans s (match Vbwbad.orderWrong s (Vbwbad.free s) x with
      | none => [0, Vbwbad.nat x.length]
      | some id => [1, Vbwbad.nat id]))
  rw [idsIn_eq wf]
  unfold checkO
  by_cases c : thereB s l = false
  · rw [if_pos c, if_neg (by rw [c]; decide)]
    rfl
  · have c' : thereB s l = true := by simpa using c
    rw [if_neg c, if_pos c']
    dsimp only
    rw [canNot_eq]
    cases canNot s (Vbwbad.free s) (l.map Int.toNat) with
    | none =>
      show (s, [0, (l.length : Int)]) = (s, [0, ((l.map Int.toNat).length : Int)])
      rw [List.length_map]
    | some n => rfl
theorem eq_block {s : S} {l : List Int} (wf : WF s) : finA s (doneO s 19 [] [l]) = Vbwbad.step s [[19], l] := by
  rw [done_row (by decide) (by decide) (by decide) (by decide)]
  show finA s (blockO s l) = (match Vbwbad.idsIn s l with
    | none => Vbwbad.ans s [-2]
    | some x => Vbwbad.ans s [Vbwbad.bit (Vbwbad.blocks s x)])
  rw [idsIn_eq wf]
  unfold blockO
  by_cases c : thereB s l = false
  · rw [if_pos c, if_neg (by rw [c]; decide)]
    rfl
  · have c' : thereB s l = true := by simpa using c
    rw [if_neg c, if_pos c']
    dsimp only
    rw [block_eq wf _ (there_is c').2.2]
    rfl
theorem any_fst (n : Nat) : ∀ l : List (Nat × Nat), (l.any fun y => y.1 == n) = (l.map fun y => y.1).contains n
  | [] => rfl
  | a :: r => by
    rw [List.any_cons, List.map_cons, List.contains_cons, any_fst n r, Bool.beq_comm]
/-! ### costs -/
theorem every2_tail {α : Type} (c : α) : ∀ r : List α, every2 (c :: r) = c :: every2 (r.drop 1)
  | [] => rfl
  | _ :: _ => rfl
theorem costsOf_cons (x c : Int) (r : List Int) : costsOf (x :: c :: r) = (x.toNat, c.toNat) :: costsOf r := by
  unfold costsOf
  show ((every2 (x :: c :: r)).zip (every2 (c :: r))).map natP = _
  rw [every2_tail c r]
  rfl
theorem costs_fst : ∀ l : List Int, l.length % 2 = 0 → (costsOf l).map (fun y => y.1) = (every2 l).map Int.toNat
  | [], _ => rfl
  | [x], h => by
    have z1 : 1 % 2 = 0 := h
    omega
  | x :: c :: r, h => by
    have h2 : r.length % 2 = 0 := by
      rw [List.length_cons, List.length_cons] at h
      omega
    rw [costsOf_cons, List.map_cons, costs_fst r h2]
    rfl
def okC (s : S) (l : List Int) : Prop := l.length % 2 = 0 ∧ numB (every2 (l.drop 1)) = true ∧ thereB s (every2 l) = true
instance (s : S) (l : List Int) : Decidable (okC s l) := inferInstanceAs (Decidable (_ ∧ _))
theorem okC_cons {s : S} {x c : Int} {r : List Int} (wf : WF s) : okC s (x :: c :: r) ↔ okC s r ∧ (Vbwbad.okId x = true ∧ (Vbwbad.batchOf s x.toNat).isSome = true) ∧ x ∉ every2 r ∧ Vbwbad.inR c 0 1000000000 = true := by
  unfold okC
  show (r.length + 1 + 1) % 2 = 0 ∧ numB (every2 (c :: r)) = true ∧ thereB s (x :: every2 r) = true ↔ _
  rw [there_cons wf, every2_tail]
  have e : numB (c :: every2 (r.drop 1)) = true ↔ Vbwbad.inR c 0 1000000000 = true ∧ numB (every2 (r.drop 1)) = true := by
    unfold numB
    rw [List.all_cons, Bool.and_eq_true]
  rw [e]
  constructor
  · rintro ⟨a, ⟨b, b2⟩, d, f, g⟩
    exact ⟨⟨by omega, b2, g⟩, d, f, b⟩
  · rintro ⟨⟨a, b2, g⟩, d, f, b⟩
    exact ⟨by omega, ⟨b, b2⟩, d, f, g⟩
theorem costsIn_eq {s : S} (wf : WF s) : ∀ l : List Int, Vbwbad.costsIn s l = if okC s l then some (costsOf l) else none
  | [] => by
    rw [if_pos ⟨rfl, rfl, rfl⟩]
    rfl
  | [x] => by
    rw [if_neg fun z => by
      have z1 : 1 % 2 = 0 := z.1
      omega]
    rfl
  | x :: c :: r => by
    unfold Vbwbad.costsIn
    rw [costsIn_eq wf r]
    by_cases k : okC s r
    · rw [if_pos k]
      have hnn := (there_is k.2.2).1
      dsimp only
      rw [any_fst, costs_fst r k.1]
      by_cases d : okC s (x :: c :: r)
      · obtain ⟨_, ⟨a, b⟩, e, f⟩ := (okC_cons wf).mp d
        rw [if_pos d, if_pos ⟨a, b, (nat_contains (okId_nn a) hnn).mpr e, f⟩, costsOf_cons]
      · rw [if_neg d, if_neg]
        rintro ⟨a, b, e, f⟩
        exact d ((okC_cons wf).mpr ⟨k, ⟨a, b⟩, (nat_contains (okId_nn a) hnn).mp e, f⟩)
    · rw [if_neg k, if_neg fun d => k ((okC_cons wf).mp d).1]
theorem eq_cheap {s : S} {l : List Int} (wf : WF s) : finA s (doneO s 15 [] [l]) = Vbwbad.step s [[15], l] := by
  rw [done_row (by decide) (by decide) (by decide) (by decide)]
  show finA s (cheapO s l) = (match Vbwbad.costsIn s l with
    | none => Vbwbad.ans s [-2]
    | some cs => let p := Vbwbad.cheapest s cs; Vbwbad.ans s (Vbwbad.nat (Vbwbad.costOf cs p) :: Vbwbad.listed p))
  rw [costsIn_eq wf]
  unfold cheapO
  have e : decide ((l.length : Int) % 2 = 0) = decide (l.length % 2 = 0) := decide_eq_decide.mpr (by omega)
  rw [e]
  by_cases k : okC s l
  · rw [if_pos k]
    obtain ⟨a, b, c⟩ := k
    rw [decide_eq_true a, b, c]
    rfl
  · rw [if_neg k]
    by_cases c1 : (decide (l.length % 2 = 0) && numB (every2 (l.drop 1))) = false
    · rw [if_pos c1]
      rfl
    · rw [if_neg c1]
      by_cases c2 : thereB s (every2 l) = false
      · rw [if_pos c2]
        rfl
      · have c1' : (decide (l.length % 2 = 0) && numB (every2 (l.drop 1))) = true := by simpa using c1
        have c2' : thereB s (every2 l) = true := by simpa using c2
        rw [Bool.and_eq_true, decide_eq_true_eq] at c1'
        exact absurd ⟨c1'.1, c1'.2, c2'⟩ k
/-! ### all that is kept -/
theorem eq_all {s : S} : finA s (doneO s 20 [] []) = Vbwbad.step s [[20]] := by
  rw [done_asked (by decide) (by decide) (by decide) (by decide)]
  show (s, allL s) = Vbwbad.ans s (Vbwbad.nat s.totals.length :: s.totals.map Vbwbad.nat ++ (Vbwbad.nat s.batches.length :: s.batches.flatMap fun b => Vbwbad.nat b.id :: Vbwbad.nat b.alts.length :: (b.alts.flatMap fun a => a.map Vbwbad.nat) ++ (b.holds.map Vbwbad.nat ++ (match b.want with
    | none => [0]
    | some w => 1 :: Vbwbad.nat w.1 :: w.2.map Vbwbad.nat))))
  have e : (fun b : B => Vbwbad.nat b.id :: Vbwbad.nat b.alts.length :: (b.alts.flatMap fun a => a.map Vbwbad.nat) ++ (b.holds.map Vbwbad.nat ++ (match b.want with
    | none => [0]
    | some w => 1 :: Vbwbad.nat w.1 :: w.2.map Vbwbad.nat))) = toldL := by
    funext b
    unfold toldL
    rw [List.append_assoc, List.append_assoc]
    cases b.want with
    | none => rfl
    | some w => rfl
  rw [e]
  unfold allL
  rw [List.append_assoc]
  rfl
end G
end

section
set_option Elab.async false
set_option linter.all false
set_option maxRecDepth 100000
namespace G
open PySem PySem.Spec PyProof.Rows L2
theorem step_eq {s : S} {w : Int} {ns : List Int} {rows : List (List Int)} (wf : WF s) (h : Sh w ns rows) : finA s (doneO s w ns rows) = Vbwbad.step s ((w :: ns) :: rows) := by
  cases h with
  | begin hl => exact eq_begin
  | add hl => exact eq_add
  | vec hw hl =>
    rcases hw with rfl | rfl | rfl | rfl
    · exact withBatch_of (by decide) (by decide) (by decide) _ fun b hb => eq_ask wf hb
    · exact withBatch_of (by decide) (by decide) (by decide) _ fun b hb => eq_give
    · exact withBatch_of (by decide) (by decide) (by decide) _ fun b hb => eq_back
    · exact withBatch_of (by decide) (by decide) (by decide) _ fun b hb => eq_could wf hb
  | bat hw =>
    rcases hw with rfl | rfl
    · exact withBatch_of (by decide) (by decide) (by decide) _ fun b hb => eq_end
    · exact withBatch_of (by decide) (by decide) (by decide) _ fun b hb => eq_drop
  | cop => exact eq_cop
  | none hw =>
    rcases hw with rfl | rfl | rfl | rfl | rfl | rfl
    · exact eq_safe
    · exact eq_locked
    · exact eq_free
    · exact eq_fewest wf
    · exact eq_many
    · exact eq_all
  | room => exact eq_room wf
  | one hw =>
    rcases hw with rfl | rfl
    · exact eq_lack wf
    · exact eq_order
  | row hw hl =>
    rcases hw with rfl | rfl | rfl
    · exact eq_cheap wf
    · exact eq_check wf
    · exact eq_block wf
/-! ### a state stays well formed -/
theorem wf_again : ∀ (l : List Nat) (s : S), WF s → Wait s l → WF (Vbwbad.again l s).1
  | [], s, wf, _ => wf
  | i :: r, s, wf, wt => by
    obtain ⟨b, hbo, hwant⟩ := wt.2 i (List.mem_cons_self ..)
    obtain ⟨w, hw⟩ := Option.isSome_iff_exists.mp hwant
    obtain ⟨hbm, hbi⟩ := batchOf_mem' hbo
    cases hg : Vbwbad.grantable s b w.2 with
    | true =>
      rw [again_yes hbo hw hg]
      have hin : Vbwbad.within w.2 (Vbwbad.free s) = true := by
        unfold Vbwbad.grantable at hg
        rw [Bool.and_eq_true] at hg
        exact hg.1
      exact wf_again r _ (wf_more wf hbm (wf.wlen b hbm w hw).1 hin none (.inr rfl)) (wait_put wt hbi)
    | false =>
      rw [again_no hbo hw hg]
      exact wf_again r s wf (wait_next wt)
theorem wf_reconsidered {s : S} (wf : WF s) : WF (Vbwbad.reconsidered s).1 := wf_again _ s wf (wait_start wf)
theorem within_le {a b : Vec} {s : S} (h : Vbwbad.within a b = true) : True := trivial
theorem wf_step {s : S} {w : Int} {ns : List Int} {rows : List (List Int)} (wf : WF s) (h : Sh w ns rows) : WF (Vbwbad.step s ((w :: ns) :: rows)).1 := by
  have hbat : ∀ (i : Int) (f : B → S × List Int), (∀ b ∈ s.batches, WF (f b).1) → WF (Vbwbad.withBatch s i f).1 := fun i f hf => by
    unfold Vbwbad.withBatch
    split
    · exact wf
    · split
      · exact wf
      · rename_i b hb
        exact hf b (batchOf_mem' hb).1
  have hvec : ∀ (l : List Int) (f : Vec → S × List Int), (∀ v : Vec, v.length = s.totals.length → WF (f v).1) → WF (Vbwbad.withVec s l f).1 := fun l f hf => by
    unfold Vbwbad.withVec
    split
    · exact wf
    · rename_i v hv
      exact hf v (vecIn_some hv).2.2.2
  cases h with
  | begin hl =>
    rename_i l
    show WF (if begB l = false then Vbwbad.ans s [-2] else (⟨l.map Int.toNat, [], 0⟩, [0])).1
    by_cases c : begB l = false
    · rw [if_pos c]
      exact wf
    · rw [if_neg c]
      have c' : begB l = true := by simpa using c
      unfold begB at c'
      rw [Bool.and_eq_true, Bool.and_eq_true, decide_eq_true_eq, decide_eq_true_eq] at c'
      refine wf_new (by rw [List.length_map]; exact c'.2.1) fun n hn => ?_
      obtain ⟨x, hx, rfl⟩ := List.mem_map.mp hn
      have := numB_nn c'.2.2 x hx
      omega
  | add hl =>
    rename_i i
    show WF (if idB i = false then Vbwbad.ans s [-1] else (match Vbwbad.vecsIn s rows with
    | none => Vbwbad.ans s [-2]
    | some l => if (decide (1 ≤ l.length) && (decide (l.length ≤ 4) && l.all fun v => Vbwbad.within v s.totals)) = false then Vbwbad.ans s [-2]
      else if (Vbwbad.batchOf s i.toNat).isSome = true then Vbwbad.ans s [-3]
      else if 10 ≤ s.batches.length then Vbwbad.ans s [-6]
      else (⟨s.totals, s.batches ++ [⟨i.toNat, l, Vbwbad.zero s, none⟩], s.next⟩, [0]))).1
    split
    · exact wf
    · rename_i c
      split
      · exact wf
      · rename_i l hl
        split
        · exact wf
        · rename_i c1
          split
          · exact wf
          · rename_i c2
            split
            · exact wf
            · rename_i c3
              have c' : idB i = true := by simpa using c
              unfold idB at c'
              rw [Bool.and_eq_true, decide_eq_true_eq, decide_eq_true_eq] at c'
              have c1' : (decide (1 ≤ l.length) && (decide (l.length ≤ 4) && l.all fun v => Vbwbad.within v s.totals)) = true := by simpa using c1
              rw [Bool.and_eq_true, Bool.and_eq_true, decide_eq_true_eq, decide_eq_true_eq] at c1'
              refine wf_add wf ⟨by omega, by omega⟩ (by simpa using c2) (by omega) c1'.2.1 fun a ha => ?_
              obtain ⟨e, f⟩ := vecsIn_some hl
              rw [e] at ha
              obtain ⟨r, hr, rfl⟩ := List.mem_map.mp ha
              exact (vecIn_some (f r hr)).2.2.2
  | vec hw hl =>
    rcases hw with rfl | rfl | rfl | rfl
    · refine hbat _ _ fun b hb => hvec _ _ fun v hv => ?_
      split
      · exact wf
      · split
        · exact wf
        · split
          · rename_i c
            unfold Vbwbad.grantable at c
            rw [Bool.and_eq_true] at c
            exact wf_more wf hb hv c.1 none (.inr rfl)
          · exact wf_wait wf hb hv
    · refine hbat _ _ fun b hb => hvec _ _ fun v hv => ?_
      split
      · exact wf
      · split
        · exact wf
        · rename_i c
          exact wf_more wf hb hv (by simpa using c) b.want (.inl rfl)
    · refine hbat _ _ fun b hb => hvec _ _ fun v hv => ?_
      split
      · exact wf
      · exact wf_reconsidered (wf_back wf hb hv)
    · refine hbat _ _ fun b hb => hvec _ _ fun v hv => ?_
      exact wf
  | bat hw =>
    rcases hw with rfl | rfl
    · refine hbat _ _ fun b hb => ?_
      exact wf_reconsidered (wf_filter wf _)
    · refine hbat _ _ fun b hb => ?_
      split
      · exact wf
      · exact wf_drop wf hb
  | cop =>
    rename_i j n
    show WF (if (Vbwbad.okJ s j && (decide (1 ≤ n) && decide (n ≤ 1000000000))) = false then Vbwbad.ans s [-1] else if 1000000000 < s.totals.getD j.toNat 0 + n.toNat then Vbwbad.ans s [-6] else Vbwbad.told (Vbwbad.reconsidered (Vbwbad.more s j.toNat n.toNat))).1
    split
    · exact wf
    · rename_i c
      split
      · exact wf
      · rename_i c2
        have c' : (Vbwbad.okJ s j && (decide (1 ≤ n) && decide (n ≤ 1000000000))) = true := by simpa using c
        rw [Bool.and_eq_true, okJ_eq] at c'
        obtain ⟨k, rfl, hk⟩ := kind_nat c'.1
        exact wf_reconsidered (wf_copies wf (by rw [Int.toNat_natCast]; exact hk) (by omega))
  | none hw =>
    rcases hw with rfl | rfl | rfl | rfl | rfl | rfl <;> exact wf
  | room =>
    rename_i i j
    show WF (if (Vbwbad.okId i && Vbwbad.okJ s j) = false then Vbwbad.ans s [-1] else Vbwbad.withBatch s i fun b => if Vbwbad.grantable s b (Vbwbad.zero s) = false then Vbwbad.ans s [-8] else Vbwbad.ans s [Vbwbad.nat (Vbwbad.room s b j.toNat)]).1
    split
    · exact wf
    · refine hbat _ _ fun b hb => ?_
      split <;> exact wf
  | one hw =>
    rename_i j
    rcases hw with rfl | rfl
    · show WF (if Vbwbad.okJ s j = false then Vbwbad.ans s [-1] else Vbwbad.ans s (match Vbwbad.lack s j.toNat with
        | none => [0]
        | some n => [1, Vbwbad.nat n])).1
      split <;> exact wf
    · show WF (if Vbwbad.inR j 0 1000000000 = false then Vbwbad.ans s [-1] else if Vbwbad.orders s ≤ j.toNat then Vbwbad.ans s [-10] else Vbwbad.ans s ((Vbwbad.kth s (Vbwbad.table s) s.batches.length 0 j.toNat).map fun i => Vbwbad.nat ((s.batches.map fun b => b.id).getD i 0))).1
      split
      · exact wf
      · split <;> exact wf
  | row hw hl =>
    rename_i l
    rcases hw with rfl | rfl | rfl
    · show WF (match Vbwbad.costsIn s l with
        | none => Vbwbad.ans s [-2]
        | some cs => let p := Vbwbad.cheapest s cs; Vbwbad.ans s (Vbwbad.nat (Vbwbad.costOf cs p) :: Vbwbad.listed p)).1
      split <;> exact wf
    · show WF (match Vbwbad.idsIn s l with
        | none => Vbwbad.ans s [-2]
        | some x => Vbwbad.ans s (match Vbwbad.orderWrong s (Vbwbad.free s) x with
          | none => [0, Vbwbad.nat x.length]
          | some id => [1, Vbwbad.nat id])).1
      split <;> exact wf
    · show WF (match Vbwbad.idsIn s l with
        | none => Vbwbad.ans s [-2]
        | some x => Vbwbad.ans s [Vbwbad.bit (Vbwbad.blocks s x)]).1
      split <;> exact wf
end G
end

section
set_option Elab.async false
set_option linter.all false
namespace G
open PySem PySem.Spec PyProof.Rows L2
def doneC (s : S) (c : List (List Int)) : S × List Int := match c with
  | (w :: ns) :: rows => finA s (doneO s w ns rows)
  | _ => (s, [])
def playO : S → List (List (List Int)) → List Int
  | _, [] => []
  | s, c :: r => ((doneC s c).2.length : Int) :: ((doneC s c).2 ++ playO (doneC s c).1 r)
def FitC (c : List (List Int)) : Prop := match c with
  | (w :: ns) :: rows => Sh w ns rows
  | _ => False
theorem wf_done {s : S} {w : Int} {ns : List Int} {rows : List (List Int)} (wf : WF s) (h : Sh w ns rows) : WF (finA s (doneO s w ns rows)).1 := by
  rw [step_eq wf h]
  exact wf_step wf h
theorem fitC_of {c : List (List Int)} (h : PyVbwbad.fits c = true) : FitC c := by
  match c, h with
  | (w :: ns) :: rows, h => exact sh_of h
  | [], h => exact Bool.noConfusion (show false = true from h)
  | [] :: rows, h => exact Bool.noConfusion (show false = true from h)
theorem play_eq : ∀ (cs : List (List (List Int))) (s : S), WF s → (∀ c ∈ cs, FitC c) → playO s cs = PyFlat.told (PyFlat.played VbwbadNeutral.step s cs)
  | [], s, _, _ => rfl
  | c :: r, s, wf, h => by
    have hc := h c (List.mem_cons_self ..)
    match c, hc with
    | (w :: ns) :: rows, hc =>
      have e : doneC s ((w :: ns) :: rows) = VbwbadNeutral.step s ((w :: ns) :: rows) := step_eq wf hc
      have ih := play_eq r (doneC s ((w :: ns) :: rows)).1 (wf_done wf hc) fun d hd => h d (List.mem_cons_of_mem _ hd)
      show ((doneC s ((w :: ns) :: rows)).2.length : Int) :: ((doneC s ((w :: ns) :: rows)).2 ++ playO (doneC s ((w :: ns) :: rows)).1 r) = ((VbwbadNeutral.step s ((w :: ns) :: rows)).2.length : Int) :: ((VbwbadNeutral.step s ((w :: ns) :: rows)).2 ++ PyFlat.told (PyFlat.played VbwbadNeutral.step (VbwbadNeutral.step s ((w :: ns) :: rows)).1 r))
      rw [ih, e]
theorem asked_ok {ns : List Int} (h : PyVbwbad.answers_asked ns = true) : ∃ all, PyWide.calls ns.length ns = some all ∧ (∀ c ∈ all, FitC c) ∧ (playO ⟨[], [], 0⟩ all).length ≤ 10000000 ∧ playO ⟨[], [], 0⟩ all = PyVbwbad.answers ns := by
  unfold PyVbwbad.answers_asked PyVbwbad.calls at h
  cases q : PyWide.calls ns.length ns with
  | none =>
    rw [q] at h
    cases h
  | some cs =>
    rw [q] at h
    have h : (!cs.isEmpty && cs.all PyVbwbad.fits && PyFlat.atMost 200 cs && VbwbadNeutral.asked cs && PyFlat.short 10000000 (PyVbwbad.answers ns)) = true := h
    simp only [Bool.and_eq_true] at h
    obtain ⟨⟨⟨⟨_, hf⟩, _⟩, _⟩, hs⟩ := h
    have hfit : ∀ c ∈ cs, FitC c := fun c hc => fitC_of (List.all_eq_true.mp hf c hc)
    have e : playO ⟨[], [], 0⟩ cs = PyVbwbad.answers ns := by
      have e0 : playO ⟨[], [], 0⟩ cs = PyFlat.told (PyFlat.played VbwbadNeutral.step ⟨[], [], 0⟩ cs) := play_eq cs ⟨[], [], 0⟩ wf_start hfit
      rw [e0]
      unfold PyVbwbad.answers PyVbwbad.calls
      rw [q]
      rfl
    exact ⟨cs, rfl, hfit, by rw [e]; exact of_decide_eq_true hs, e⟩
end G
end

section
set_option Elab.async false
set_option linter.all false
set_option maxRecDepth 100000
set_option maxHeartbeats 4000000
namespace G
open PySem PySem.Spec PyProof.Rows L2
theorem rows_suf : ∀ {k : Nat} {t u : List Int} {xs : List (List Int)}, PyFlat.rows k t = some (xs, u) → ∃ j, j ≤ t.length ∧ u = t.drop j
  | 0, t, u, xs, h => by
    cases h
    exact ⟨0, Nat.zero_le _, rfl⟩
  | k + 1, t, u, xs, h => by
    obtain ⟨n, r, ys, rfl, hn, rfl, h2⟩ := rows_succ h
    obtain ⟨j, hj, e⟩ := rows_suf h2
    rw [List.length_drop] at hj
    refine ⟨n + j + 1, ?_, ?_⟩
    · rw [List.length_cons]
      omega
    · rw [e, List.drop_drop, List.drop_succ_cons]
theorem calls_cons {f : Nat} {p : Int} {r : List Int} {rest : List (List (List Int))} (h : PyWide.calls f (p :: r) = some rest) : ∃ (f' : Nat) (ns : List Int) (k : Nat) (t : List Int) (xs : List (List Int)) (u : List Int) (rest' : List (List (List Int))),
    PyFlat.row r = some (ns, (k : Int) :: t) ∧ PyFlat.rows k t = some (xs, u) ∧ rest = ((p :: ns) :: xs) :: rest' ∧ PyWide.calls f' u = some rest' := by
  cases f with
  | zero => cases h
  | succ f' =>
    have h : (match PyWide.call (p :: r) with
      | none => none
      | some (c, t) => match PyWide.calls f' t with
        | none => none
        | some cs => some (c :: cs)) = some rest := h
    cases e : PyWide.call (p :: r) with
    | none =>
      rw [e] at h
      cases h
    | some q =>
      obtain ⟨c, u⟩ := q
      rw [e] at h
      have h : (match PyWide.calls f' u with
        | none => none
        | some cs => some (c :: cs)) = some rest := h
      cases e2 : PyWide.calls f' u with
      | none =>
        rw [e2] at h
        cases h
      | some rest' =>
        rw [e2] at h
        cases h
        have e : (match PyFlat.row r with
          | none => none
          | some (_, []) => none
          | some (ns, k :: t) => if 0 ≤ k then (match PyFlat.rows k.toNat t with
            | none => none
            | some (xs, u) => some ((p :: ns) :: xs, u)) else none) = some (c, u) := e
        cases e3 : PyFlat.row r with
        | none =>
          rw [e3] at e
          cases e
        | some q =>
          obtain ⟨ns, l⟩ := q
          cases l with
          | nil =>
            rw [e3] at e
            cases e
          | cons k t =>
            rw [e3] at e
            have e : (if 0 ≤ k then (match PyFlat.rows k.toNat t with
              | none => none
              | some (xs, u) => some ((p :: ns) :: xs, u)) else none) = some (c, u) := e
            by_cases hk : 0 ≤ k
            · rw [if_pos hk] at e
              cases e4 : PyFlat.rows k.toNat t with
              | none =>
                rw [e4] at e
                cases e
              | some q =>
                obtain ⟨xs, u'⟩ := q
                rw [e4] at e
                cases e
                exact ⟨f', ns, k.toNat, t, xs, u, rest', by rw [Int.toNat_of_nonneg hk], e4, rfl, e2⟩
            · rw [if_neg hk] at e
              cases e
section
variable {P : Program} {w : World} {K : PySem.W.Frag} {mg : Str → Option Value} {base : Heap} {A : Adr}
def sp_answers (K : PySem.W.Frag) : Sp := fun vs H Q _ => ∃ (a : Addr) (cs : List Int) (all : List (List (List Int))), vs = [.ref a] ∧ SqL K H a (cs.map V.int) ∧ cs.length ≤ 17000 ∧ PyWide.calls cs.length cs = some all ∧ (∀ c ∈ all, FitC c) ∧ (playO ⟨[], [], 0⟩ all).length ≤ 10000000 ∧
  ∀ (H' : Hp) (p : Addr), H' p = some (.lst ((playO ⟨[], [], 0⟩ all).map V.int)) → Q (.ref p) H'
theorem ok_answers (T : TxD K mg A) {f : Addr} {fd : FuncData} (Fn : Fun K "answers" "answers" s_answers f fd) : FnOk P w K mg base CX0 23 f fd ["calls"] (sp_answers K) := by
    refine Fn.ok sc_answers (fun vs H Q E h => ?_) fun cdv B0 outer s H vs Q E hr h => ?_
    · obtain ⟨a, cs, all, rfl, _⟩ := h
      rfl
    · obtain ⟨a, cs, all, rfl, hS, hlen, hcalls, hfit, hbig, kk⟩ := h
      refine ⟨_, (pss_cons (ps_set (i := 1) sc_answers.nd rfl (Or.inl rfl) (pe_makeF0 (ok_Desk_init T) (hr.mono (by decide)) pass0))
      (pss_cons (ps_set (i := 2) sc_answers.nd rfl (Or.inl rfl) (pe_lst pa_nil))
      (pss_cons (ps_set (i := 3) sc_answers.nd rfl (Or.inl rfl) pe_int)
      (pss_cons (ps_while PassesOwn.never (pt_cmpR op_lt (pv 3) (pe_callB call_len_seq rfl T.b_len (by decide +kernel) (pa_cons (pv 0) pa_nil)) (nomark _))
      (pss_cons (ps_set (i := 4) sc_answers.nd rfl (Or.inl rfl) (pe_op op_add (pe_op op_add (pv 3) pe_int) (pe_ix ix_list (pv 0) (pe_op op_add (pv 3) pe_int) (fun _ _ => rfl))))
      (pss_cons (ps_set (i := 5) sc_answers.nd rfl (Or.inl rfl) (pe_slice sl_list (pv 0) (po_some (pe_op op_add (pv 3) pe_int)) (po_some (pv 4))))
      (pss_cons (ps_asg (pe_callF (ok_rows_at T) (hr.mono (by decide)) pass0 (pa_cons (pv 0) (pa_cons (pv 4) pa_nil))) (pg_tup rfl (pgs_cons (pg_name (i := 6) sc_answers.nd rfl (Or.inl rfl)) (pgs_cons (pg_name (i := 7) sc_answers.nd rfl (Or.inl rfl)) pgs_nil))))
      (pss_cons (ps_set (i := 8) sc_answers.nd rfl (Or.inl rfl) (pe_methF (ok_Desk_answer T) (hr.mono (by decide)) pass0 (pv 1) (pa_cons (pe_ix ix_list (pv 0) (pv 3) (fun _ _ => rfl)) (pa_cons (pv 5) (pa_cons (pv 6) pa_nil)))))
      (pss_cons (ps_expr (pe_bm PySem.F.plainAttrs_list PySem.F.slot_list_append PySem.F.type_list_append mt_append (pv 2) (pa_cons (pe_callB call_len_seq rfl T.b_len (by decide +kernel) (pa_cons (pv 8) pa_nil)) pa_nil)))
      (pss_cons (ps_expr (pe_bm PySem.F.plainAttrs_list PySem.F.slot_list_extend PySem.F.type_list_extend mt_extend (pv 2) (pa_cons (pv 8) pa_nil)))
      (pss_one (ps_set (i := 3) sc_answers.nd rfl (Or.inl rfl) (pv 7))))))))))
      (pss_one (ps_ret (pv 2))))))), ?_⟩
      -- what stands still: the list that is handed in
      let F : Hp := fun b => if b = a then H a else none
      have sF : Same F H := fun b o e => by
        by_cases h : b = a
        · have e : (if b = a then H a else none) = some o := e
          rw [if_pos h] at e
          rw [h]
          exact e
        · have e : (if b = a then H a else none) = some o := e
          rw [if_neg h] at e
          cases e
      have hSF : SqL K F a (cs.map V.int) := by
        have ea : F a = H a := if_pos rfl
        rcases hS with (h | ⟨o, h⟩) | h
        · exact .inl (.inl (ea.trans h))
        · exact .inl (.inr ⟨o, ea.trans h⟩)
        · exact .inr h
      intro x dx nx nd ne
      have fx : F x = none := same_none sF nx
      have fdx : F dx = none := same_none sF nd
      have s1 : Same F (upd (upd H dx (.own x)) x (.ins A.D dx [])) := fun b o e => by
        rw [upd_ne (ne_of_none e fx), upd_ne (ne_of_none e fdx)]
        exact sF b o e
      refine ⟨x, dx, F, s1, rfl, upd_same, fx, fun H1 F1 f1 hD1 => ⟨rfl, ?_⟩⟩
      refine q_new f1.fh fun lo nlo s0 => ?_
      have flo : F1 lo = none := same_none f1.fh nlo
      have p0 : zS K cs (.ref a) F := ⟨a, rfl, hSF⟩
      refine q_asg s0 (P := zN 0) ev_int fun v3 H2 F2 f2 p3 => ?_
      have p3 : v3 = .int ((0 : Nat) : Int) := p3
      subst p3
      have hD1' : DeskAt A x ⟨[], [], 0⟩ F1 (upd H1 lo (.lst [])) := by
        obtain ⟨h, g1, ⟨dd, g2⟩, g3⟩ := hD1
        refine ⟨h, g1, ⟨dd, ?_⟩, g3.off (.inl nlo)⟩
        rw [upd_ne]
        · exact g2
        · intro z
          rw [← z, g2] at nlo
          cases nlo
      have hD2 := hD1'.fut f2
      refine q_while (m0 := cs.length) (fun m σ F' H' => ∃ (st : S) (e f : Nat) (L : List Int) (rest : List (List (List Int))) (x4 x5 x6 x7 x8 : Option V), σ = [some (.ref a), some (.ref x), some (.ref lo), some (.int (e : Int)), x4, x5, x6, x7, x8] ∧ m = cs.length - e ∧ e ≤ cs.length ∧ Same F F' ∧ Same F' H' ∧ DeskAt A x st F' H' ∧ WF st ∧
          H' lo = some (.lst (L.map V.int)) ∧ F' lo = none ∧ PyWide.calls f (cs.drop e) = some rest ∧ (∀ c ∈ rest, FitC c) ∧ playO ⟨[], [], 0⟩ all = L ++ playO st rest)
        ⟨⟨[], [], 0⟩, 0, cs.length, [], all, none, none, none, none, none, rfl, rfl, Nat.zero_le _, f1.ff.trans f2.ff, f2.fh, hD2, wf_start, f2.hh _ _ upd_same, f2.nw lo (by rw [upd_same]; exact fun z => by cases z) flo, hcalls, hfit, rfl⟩ ?_
      rintro m σ F' H' ⟨st, e, f, L, rest, x4, x5, x6, x7, x8, rfl, rfl, he, sF', sH', hD', wf, hl, fl, hc, hft, hpl⟩
      have p1 : zS K cs (.ref a) F' := up sF' p0
      refine ⟨sH', _, et_test (Ev.bl (lt_nat e cs.length) (ev_lt (i := (e : Int)) (j := (cs.length : Int)) (ev_var rfl rfl) (ev_lenS (ea_cons (ev_var rfl p1) ea_nil)))), fun hb H3 u3 => ?_, fun hb H3 u3 => ?_⟩
      · have hlt : e < cs.length := of_decide_eq_true hb
        obtain ⟨p, r, hpr⟩ : ∃ p r, cs.drop e = p :: r := by
          cases q : cs.drop e with
          | nil =>
            have := congrArg List.length q
            rw [List.length_drop, List.length_nil] at this
            omega
          | cons p r => exact ⟨p, r, rfl⟩
        rw [hpr] at hc
        obtain ⟨f', ns, k, t, xs, u, rest', hrow, hrows, rfl, hc'⟩ := calls_cons hc
        obtain ⟨n, r', rfl, hn, rfl, hkt⟩ := row_some hrow
        have hd2 : cs.drop (e + 2) = r' := by
          have := congrArg (fun l => l.drop 2) hpr
          rw [List.drop_drop] at this
          exact this
        have hpe : cs[e]? = some p := by
          have := congrArg (fun l => l[0]?) hpr
          simpa using this
        have hne : cs[e + 1]? = some (n : Int) := by
          have := congrArg (fun l => l[1]?) hpr
          simpa using this
        have hrl : r'.length = cs.length - (e + 2) := by rw [← hd2, List.length_drop]
        have hdb : cs.drop (e + 2 + n) = (k : Int) :: t := by rw [← List.drop_drop, hd2, ← hkt]
        have hkb : cs[e + 2 + n]? = some (k : Int) := by
          have := congrArg (fun l => l[0]?) hdb
          simpa using this
        have htb : cs.drop (e + 2 + n + 1) = t := by
          have := congrArg (fun l => l.drop 1) hdb
          rw [List.drop_drop] at this
          exact this
        have hblt : e + 2 + n < cs.length := (List.getElem?_eq_some_iff.mp hkb).1
        obtain ⟨j, hj, hu⟩ := rows_suf hrows
        have htl : t.length = cs.length - (e + 2 + n + 1) := by rw [← htb, List.length_drop]
        have hue : u = cs.drop (e + 2 + n + 1 + j) := by rw [← List.drop_drop, htb, hu]
        have hul : cs.length - u.length = e + 2 + n + 1 + j := by
          rw [hue, List.length_drop]
          omega
        have hsh0 : Sh p (r'.take n) xs := hft _ (List.mem_cons_self ..)
        have hfit0 : Fit p (r'.take n) xs := sh_fit hsh0
        have at1 : Ev (tOp (rI0 fun i j => .int (i + j)) (tVar 3) (tC (.int 1))) [some (.ref a), some (.ref x), some (.ref lo), some (.int (e : Int)), x4, x5, x6, x7, x8] F' H3 (zI ((e + 1 : Nat) : Int)) := Ev.int (Int.natCast_add e 1).symm (ev_add (i := (e : Int)) (ev_var rfl rfl) ev_int)
        have at2 : Ev (tOp (rI0 fun i j => .int (i + j)) (tVar 3) (tC (.int 2))) [some (.ref a), some (.ref x), some (.ref lo), some (.int (e : Int)), x4, x5, x6, x7, x8] F' H3 (zI ((e + 2 : Nat) : Int)) := Ev.int (Int.natCast_add e 2).symm (ev_add (i := (e : Int)) (ev_var rfl rfl) ev_int)
        refine q_asg u3.fh (Ev.int (Int.natCast_add (e + 2) n).symm (ev_add at2 (ev_ixS hne rfl (ev_var rfl p1) at1))) fun v4 H4 F4 f4 p4 => ?_
        have p4 : v4 = .int ((e + 2 + n : Nat) : Int) := p4
        subst p4
        have p14 := up f4.ff p1
        refine q_asg (P := zL zI ((cs.drop (e + 2)).take (e + 2 + n - (e + 2)))) f4.fh (ev_slS (Nat.le_add_right _ _) (Nat.le_of_lt hblt) (by show _ ≤ 20000; omega) (ev_var rfl p14) (Ev.int (Int.natCast_add e 2).symm (ev_add (i := (e : Int)) (ev_var rfl rfl) ev_int)) (ev_var rfl rfl)) fun v5 H5 F5 f5 p5 => ?_
        rw [hd2, show e + 2 + n - (e + 2) = n by omega] at p5
        have p15 := up f5.ff p14
        refine q_asg2 (P1 := zRows xs) (P2 := zN (cs.length - u.length)) f5.fh (ev_call (args := fun x : List Int × Nat × List (List Int) × List Int => [zS K x.1, zN x.2.1]) (pre := fun x _ _ => x.1.length ≤ 17000 ∧ ∃ k : Nat, x.1[x.2.1]? = some (k : Int) ∧ PyFlat.rows k (x.1.drop (x.2.1 + 1)) = some (x.2.2.1, x.2.2.2)) (res := fun x => zT [zRows x.2.2.1, zN (x.1.length - x.2.2.2.length)]) (cs, e + 2 + n, xs, u) (fun _ _ _ _ _ _ => ⟨hlen, k, hkb, by rw [htb]; exact hrows⟩) (ea_cons (ev_var rfl p15) (ea_cons (ev_var rfl rfl) ea_nil))) fun v6 v7 H6 F6 f6 p6 p7 => ?_
        have p7 : v7 = .int ((cs.length - u.length : Nat) : Int) := p7
        rw [hul] at p7
        subst p7
        have fa := ((u3.trans f4).trans f5).trans f6
        have hD6 := hD'.fut fa
        refine r_dm (args := fun x : Addr × S × Int × List Int × List (List Int) => [zI x.2.2.1, zL zI x.2.2.2.1, zRows x.2.2.2.2]) (pre := fun x => Fit x.2.2.1 x.2.2.2.1 x.2.2.2.2) (out := fun x => .ok (finA x.2.1 (doneO x.2.1 x.2.2.1 x.2.2.2.1 x.2.2.2.2))) (E := E0) (p, r'.take n, xs) f6.fh hD6 wf hfit0 (by decide +kernel) (ev_var rfl zAt_rfl) (ea_cons (ev_ixS hpe rfl (ev_var rfl (up f6.ff p15)) (ev_var rfl rfl)) (ea_cons (ev_var rfl (up f6.ff p5)) (ea_cons (ev_var rfl p6) ea_nil))) (fun n h => by cases h) fun s' l h v8 H7 F7 f7 hD7 p8 => ?_
        have es : finA st (doneO st p (r'.take n) xs) = (s', l) := Except.ok.inj h
        have hl6 := fa.hh _ _ hl
        have fl6 : F6 lo = none := fa.nw lo (by rw [hl]; exact fun z => by cases z) fl
        have hl7 := f7.hh _ _ hl6
        have fl7 : F7 lo = none := f7.nw lo (by rw [hl6]; exact fun z => by cases z) fl6
        have hpl2 : playO ⟨[], [], 0⟩ all = L ++ ((l.length : Int) :: (l ++ playO s' rest')) := by
          rw [hpl]
          show L ++ (((finA st (doneO st p (r'.take n) xs)).2.length : Int) :: ((finA st (doneO st p (r'.take n) xs)).2 ++ playO (finA st (doneO st p (r'.take n) xs)).1 rest')) = _
          rw [es]
        have hsz : L.length + 1 + l.length ≤ 10000000 := by
          rw [hpl2, List.length_append, List.length_cons, List.length_append] at hbig
          omega
        have big : 10000000 < sizeLine := by decide
        refine q_app (us := L.map V.int) (P := zI (l.length : Int)) f7.fh rfl hl7 fl7 (by rw [List.length_map]; omega) (ev_len (ea_cons (ev_var rfl p8) ea_nil)) fun v9 H8 F8 f8 p9 fl8 s8 => ?_
        have p9 : v9 = .int (l.length : Int) := p9
        subst p9
        have hl8 : (upd H8 lo (.lst (L.map V.int ++ [.int (l.length : Int)]))) lo = some (.lst ((L ++ [(l.length : Int)]).map V.int)) := by
          rw [upd_same, List.map_append]
          rfl
        refine q_extI (L := L ++ [(l.length : Int)]) (m := l) s8 rfl hl8 fl8 (by rw [List.length_append]; show L.length + 1 + l.length ≤ sizeLine; omega) (ev_var rfl (up f8.ff p8)) fun H9 F9 f9 fl9 s9 => ?_
        have nd9 : DeskAt A x s' F9 (upd H9 lo (.lst (((L ++ [(l.length : Int)]) ++ l).map V.int))) := by
          have h8 := hD7.fut f8
          have off : ∀ {st : S} {F H : Hp} {o : HO}, DeskAt A x st F H → (∃ us, H lo = some (.lst us)) → DeskAt A x st F (upd H lo o) := by
            rintro st F H o ⟨h, g1, ⟨dd, g2⟩, g3⟩ ⟨us, hlo⟩
            refine ⟨h, g1, ⟨dd, ?_⟩, g3.off (.inr (g3.neL hlo))⟩
            rw [upd_ne]
            · exact g2
            · intro z
              rw [z, hlo] at g2
              cases g2
          have h8' := off (o := .lst (L.map V.int ++ [.int (l.length : Int)])) h8 ⟨_, f8.hh _ _ hl7⟩
          exact off (h8'.fut f9) ⟨_, f9.hh _ _ hl8⟩
        refine s_asg (P := zN (e + 2 + n + 1 + j)) s9 (ev_var rfl rfl) fun v10 H10 F10 f10 p10 => ?_
        have p10 : v10 = .int ((e + 2 + n + 1 + j : Nat) : Int) := p10
        subst p10
        refine ⟨cs.length - (e + 2 + n + 1 + j), F10, by omega, s', e + 2 + n + 1 + j, f', (L ++ [(l.length : Int)]) ++ l, rest', _, _, _, _, _, rfl, rfl, by omega, ((((sF'.trans fa.ff).trans f7.ff).trans f8.ff).trans f9.ff).trans f10.ff, f10.fh, nd9.fut f10, ?_, f10.hh _ _ upd_same, f10.nw lo (by rw [upd_same]; exact fun z => by cases z) fl9, by rw [← hue]; exact hc', fun c hcm => hft c (List.mem_cons_of_mem _ hcm), ?_⟩
        · have := wf_done wf hsh0
          rw [es] at this
          exact this
        · rw [hpl2, List.append_assoc, List.append_assoc]
          rfl
      · have hge : ¬ e < cs.length := of_decide_eq_false hb
        have ee : e = cs.length := by omega
        rw [ee, List.drop_length] at hc
        have hr0 : rest = [] := by
          cases f with
          | zero =>
            cases hc
            rfl
          | succ f =>
            cases hc
            rfl
        rw [hr0] at hpl
        have hpl : playO ⟨[], [], 0⟩ all = L := by
          rw [hpl]
          exact List.append_nil L
        refine ⟨_, rfl, kk _ _ ?_⟩
        rw [hpl]
        exact u3.hh _ _ hl
end
end G
end

section
set_option Elab.async false
set_option linter.all false
set_option maxRecDepth 100000
set_option maxHeartbeats 8000000
namespace G
open PySem PySem.Spec PyProof.Rows L2
def intsB : List Value → List Int → Bool
  | [], [] => true
  | .int i _ :: r, n :: l => decide (i = n) && intsB r l
  | _, _ => false
theorem intsB_ok : ∀ {vs : List Value} {l : List Int}, intsB vs l = true → Vals (l.map V.int) vs
  | [], [], _ => .nil
  | .int i t :: r, n :: l, h => by
    have h : (decide (i = n) && intsB r l) = true := h
    rw [Bool.and_eq_true, decide_eq_true_eq] at h
    obtain ⟨rfl, h2⟩ := h
    exact .cons ⟨t, rfl⟩ (intsB_ok h2)
def tupIn (K : PySem.W.Frag) (t : Addr) (l : List Int) : Bool := match K.lookup t with
  | some o => (match o.cls with
    | .type T => decide (T = "tuple")
    | _ => false) && (match o.data with
    | .seq its _ => intsB its.toList l && decide (its.size ≤ 1000)
    | _ => false)
  | none => false
theorem tupIn_ok {K : PySem.W.Frag} {t : Addr} {l : List Int} (h : tupIn K t l = true) (H : Hp) : SqT K H t (l.map V.int) := by
  unfold tupIn at h
  cases e : K.lookup t with
  | none =>
    rw [e] at h
    cases h
  | some o =>
    rw [e] at h
    obtain ⟨cl, di, da, sl⟩ := o
    rw [Bool.and_eq_true] at h
    obtain ⟨h1, h2⟩ := h
    cases cl with
    | type T =>
      have h1 : T = "tuple" := of_decide_eq_true h1
      subst h1
      cases da with
      | seq its n =>
        have h2 : (intsB its.toList l && decide (its.size ≤ 1000)) = true := h2
        rw [Bool.and_eq_true, decide_eq_true_eq] at h2
        exact .inr ⟨_, its, n, e, rfl, rfl, Nat.le_of_lt (small1000 h2.2), intsB_ok h2.1⟩
      | _ => cases h2
    | _ => cases h1
theorem all_txt {K : PySem.W.Frag} {h : Heap} {mg : Str → Option Value} (X : K.In h) (G : h.Ns mainGlobals mg) {k_BAD_ROW k_FULL k_MOST_ALTERNATIVES k_MOST_BATCHES k_MOST_KINDS k_MOST_MORE k_MOST_NUMBER k_NONE_SUCH k_NOT_FREE k_NOT_SAFE k_NOT_SO_MUCH k_OUT_OF_RANGE k_THERE_ALREADY k_WAITING kW_1 kW_2 kW_3 kW_4 kW_5 kW_6 kW_11 kW_12 kV_2 kV_3 kV_4 kV_5 kV_6 kV_11 kV_12 : Tok} {dW dV : _} {nW nV : _} {sW sV : _} {CR CB CO CH CX CD f1 f2 f3 f4 f5 f6 f7 f8 f9 f10 f11 f12 f13 f14 f15 f16 f17 f18 f19 f20 f21 f22 f23 f24 f25 f26 f27 f28 f29 f30 f31 f32 f33 f34 f35 f36 f37 f38 f39 f40 f41 f42 f43 f44 f45 f46 f47 f48 f49 f50 f51 f52 f53 f54 f55 f56 f57 f58 f59 f60 f61 f62 f63 f64 f65 f66 f67 f68 f69 f70 f71 f72 f73 f74 f75 f76 f77 f78 f79 f80 f81 f82 f83 f84 f85 f86 f87 tW tV : Addr} {od1 an1 od2 an2 od3 an3 od4 an4 od5 an5 od6 an6 od7 an7 od8 an8 od9 an9 od10 an10 od11 an11 od12 an12 od13 an13 od14 an14 od15 an15 od16 an16 od17 an17 od18 an18 od19 an19 od20 an20 od21 an21 od22 an22 od23 an23 od24 an24 od25 an25 od26 an26 od27 an27 od28 an28 od29 an29 od30 an30 od31 an31 od32 an32 od33 an33 od34 an34 od35 an35 od36 an36 od37 an37 od38 an38 od39 an39 od40 an40 od41 an41 od42 an42 od43 an43 od44 an44 od45 an45 od46 an46 od47 an47 od48 an48 od49 an49 od50 an50 od51 an51 od52 an52 od53 an53 od54 an54 od55 an55 od56 an56 od57 an57 od58 an58 od59 an59 od60 an60 od61 an61 od62 an62 od63 an63 od64 an64 od65 an65 od66 an66 od67 an67 od68 an68 od69 an69 od70 an70 od71 an71 od72 an72 od73 an73 od74 an74 od75 an75 od76 an76 od77 an77 od78 an78 od79 an79 od80 an80 od81 an81 od82 an82 od83 an83 od84 an84 od85 an85 od86 an86 od87 an87 : Option Addr} {sl1 sl2 sl3 sl4 sl5 sl6 sl7 sl8 sl9 sl10 sl11 sl12 sl13 sl14 sl15 sl16 sl17 sl18 sl19 sl20 sl21 sl22 sl23 sl24 sl25 sl26 sl27 sl28 sl29 sl30 sl31 sl32 sl33 sl34 sl35 sl36 sl37 sl38 sl39 sl40 sl41 sl42 sl43 sl44 sl45 sl46 sl47 sl48 sl49 sl50 sl51 sl52 sl53 sl54 sl55 sl56 sl57 sl58 sl59 sl60 sl61 sl62 sl63 sl64 sl65 sl66 sl67 sl68 sl69 sl70 sl71 sl72 sl73 sl74 sl75 sl76 sl77 sl78 sl79 sl80 sl81 sl82 sl83 sl84 sl85 sl86 sl87 : Array (Option Value)} {oc1 kV1 dc1 pm1 cd1 ct1 oc2 kV2 dc2 pm2 cd2 ct2 oc3 kV3 dc3 pm3 cd3 ct3 oc4 kV4 dc4 pm4 cd4 ct4 oc5 kV5 dc5 pm5 cd5 ct5 oc6 kV6 dc6 pm6 cd6 ct6 oc7 kV7 dc7 pm7 cd7 ct7 oc8 kV8 dc8 pm8 cd8 ct8 oc9 kV9 dc9 pm9 cd9 ct9 oc10 kV10 dc10 pm10 cd10 ct10 oc11 kV11 dc11 pm11 cd11 ct11 oc12 kV12 dc12 pm12 cd12 ct12 oc13 kV13 dc13 pm13 cd13 ct13 oc14 kV14 dc14 pm14 cd14 ct14 oc15 kV15 dc15 pm15 cd15 ct15 oc16 kV16 dc16 pm16 cd16 ct16 oc17 kV17 dc17 pm17 cd17 ct17 oc18 kV18 dc18 pm18 cd18 ct18 oc19 kV19 dc19 pm19 cd19 ct19 oc20 kV20 dc20 pm20 cd20 ct20 oc21 kV21 dc21 pm21 cd21 ct21 oc22 kV22 dc22 pm22 cd22 ct22 oc23 kV23 dc23 pm23 cd23 ct23 oc24 kV24 dc24 pm24 cd24 ct24 oc25 kV25 dc25 pm25 cd25 ct25 oc26 kV26 dc26 pm26 cd26 ct26 oc27 kV27 dc27 pm27 cd27 ct27 oc28 kV28 dc28 pm28 cd28 ct28 oc29 kV29 dc29 pm29 cd29 ct29 oc30 kV30 dc30 pm30 cd30 ct30 oc31 kV31 dc31 pm31 cd31 ct31 oc32 kV32 dc32 pm32 cd32 ct32 oc33 kV33 dc33 pm33 cd33 ct33 oc34 kV34 dc34 pm34 cd34 ct34 oc35 kV35 dc35 pm35 cd35 ct35 oc36 kV36 dc36 pm36 cd36 ct36 oc37 kV37 dc37 pm37 cd37 ct37 oc38 kV38 dc38 pm38 cd38 ct38 oc39 kV39 dc39 pm39 cd39 ct39 oc40 kV40 dc40 pm40 cd40 ct40 oc41 kV41 dc41 pm41 cd41 ct41 oc42 kV42 dc42 pm42 cd42 ct42 oc43 kV43 dc43 pm43 cd43 ct43 oc44 kV44 dc44 pm44 cd44 ct44 oc45 kV45 dc45 pm45 cd45 ct45 oc46 kV46 dc46 pm46 cd46 ct46 oc47 kV47 dc47 pm47 cd47 ct47 oc48 kV48 dc48 pm48 cd48 ct48 oc49 kV49 dc49 pm49 cd49 ct49 oc50 kV50 dc50 pm50 cd50 ct50 oc51 kV51 dc51 pm51 cd51 ct51 oc52 kV52 dc52 pm52 cd52 ct52 oc53 kV53 dc53 pm53 cd53 ct53 oc54 kV54 dc54 pm54 cd54 ct54 oc55 kV55 dc55 pm55 cd55 ct55 oc56 kV56 dc56 pm56 cd56 ct56 oc57 kV57 dc57 pm57 cd57 ct57 oc58 kV58 dc58 pm58 cd58 ct58 oc59 kV59 dc59 pm59 cd59 ct59 oc60 kV60 dc60 pm60 cd60 ct60 oc61 kV61 dc61 pm61 cd61 ct61 oc62 kV62 dc62 pm62 cd62 ct62 oc63 kV63 dc63 pm63 cd63 ct63 oc64 kV64 dc64 pm64 cd64 ct64 oc65 kV65 dc65 pm65 cd65 ct65 oc66 kV66 dc66 pm66 cd66 ct66 oc67 kV67 dc67 pm67 cd67 ct67 oc68 kV68 dc68 pm68 cd68 ct68 oc69 kV69 dc69 pm69 cd69 ct69 oc70 kV70 dc70 pm70 cd70 ct70 oc71 kV71 dc71 pm71 cd71 ct71 oc72 kV72 dc72 pm72 cd72 ct72 oc73 kV73 dc73 pm73 cd73 ct73 oc74 kV74 dc74 pm74 cd74 ct74 oc75 kV75 dc75 pm75 cd75 ct75 oc76 kV76 dc76 pm76 cd76 ct76 oc77 kV77 dc77 pm77 cd77 ct77 oc78 kV78 dc78 pm78 cd78 ct78 oc79 kV79 dc79 pm79 cd79 ct79 oc80 kV80 dc80 pm80 cd80 ct80 oc81 kV81 dc81 pm81 cd81 ct81 oc82 kV82 dc82 pm82 cd82 ct82 oc83 kV83 dc83 pm83 cd83 ct83 oc84 kV84 dc84 pm84 cd84 ct84 oc85 kV85 dc85 pm85 cd85 ct85 oc86 kV86 dc86 pm86 cd86 ct86 oc87 kV87 dc87 pm87 cd87 ct87 : Value} {nm q : Str} {N : Addr} {bs : List Value} {sn : List Str} {sub : List Value} {ab : Bool} {col : Option Bool} {dd : Option Addr} {m0 m1 m2 m3 m5 : Option Value}
    (gR : PySem.W.nsIn K mainGlobals "Request" = some (some (.ref CR)))
    (gB : PySem.W.nsIn K mainGlobals "Batch" = some (some (.ref CB)))
    (gO : PySem.W.nsIn K mainGlobals "Orders" = some (some (.ref CO)))
    (gH : PySem.W.nsIn K mainGlobals "House" = some (some (.ref CH)))
    (gX : PySem.W.nsIn K mainGlobals "Refused" = some (some (.ref CX)))
    (gD : PySem.W.nsIn K mainGlobals "Desk" = some (some (.ref CD)))
    (a1 : PySem.W.nsIn K mainGlobals "is_within" = some (some (.ref f1)))
    (l1 : K.lookup f1 = some ⟨oc1, od1, .func (PySem.W.fnOf "is_within" "is_within" (defArgs s_is_within) (defBody s_is_within) (defScope s_is_within) .none kV1 dc1 pm1 an1 cd1 ct1), sl1⟩)
    (c1 : PySem.W.codeIn K cd1 "is_within" = true)
    (k1 : PySem.W.keepIn K (.ref f1) = true)
    (a2 : PySem.W.nsIn K mainGlobals "more" = some (some (.ref f2)))
    (l2 : K.lookup f2 = some ⟨oc2, od2, .func (PySem.W.fnOf "more" "more" (defArgs s_more) (defBody s_more) (defScope s_more) .none kV2 dc2 pm2 an2 cd2 ct2), sl2⟩)
    (c2 : PySem.W.codeIn K cd2 "more" = true)
    (k2 : PySem.W.keepIn K (.ref f2) = true)
    (a3 : PySem.W.nsIn K mainGlobals "less" = some (some (.ref f3)))
    (l3 : K.lookup f3 = some ⟨oc3, od3, .func (PySem.W.fnOf "less" "less" (defArgs s_less) (defBody s_less) (defScope s_less) .none kV3 dc3 pm3 an3 cd3 ct3), sl3⟩)
    (c3 : PySem.W.codeIn K cd3 "less" = true)
    (k3 : PySem.W.keepIn K (.ref f3) = true)
    (a4 : PySem.W.findIn K (.ref CR) "__init__" = some (some (.ref f4)))
    (l4 : K.lookup f4 = some ⟨oc4, od4, .func (PySem.W.fnOf "__init__" "Request.__init__" (defArgs s_Request_init) (defBody s_Request_init) (defScope s_Request_init) .none kV4 dc4 pm4 an4 cd4 ct4), sl4⟩)
    (c4 : PySem.W.codeIn K cd4 "Request.__init__" = true)
    (k4 : PySem.W.keepIn K (.ref f4) = true)
    (i4 : PySem.W.isFn K (.ref f4) = true)
    (a5 : PySem.W.findIn K (.ref CB) "__init__" = some (some (.ref f5)))
    (l5 : K.lookup f5 = some ⟨oc5, od5, .func (PySem.W.fnOf "__init__" "Batch.__init__" (defArgs s_Batch_init) (defBody s_Batch_init) (defScope s_Batch_init) .none kV5 dc5 pm5 an5 cd5 ct5), sl5⟩)
    (c5 : PySem.W.codeIn K cd5 "Batch.__init__" = true)
    (k5 : PySem.W.keepIn K (.ref f5) = true)
    (i5 : PySem.W.isFn K (.ref f5) = true)
    (a6 : PySem.W.findIn K (.ref CB) "may_hold" = some (some (.ref f6)))
    (l6 : K.lookup f6 = some ⟨oc6, od6, .func (PySem.W.fnOf "may_hold" "Batch.may_hold" (defArgs s_Batch_may_hold) (defBody s_Batch_may_hold) (defScope s_Batch_may_hold) .none kV6 dc6 pm6 an6 cd6 ct6), sl6⟩)
    (c6 : PySem.W.codeIn K cd6 "Batch.may_hold" = true)
    (k6 : PySem.W.keepIn K (.ref f6) = true)
    (i6 : PySem.W.isFn K (.ref f6) = true)
    (a7 : PySem.W.findIn K (.ref CB) "may_get" = some (some (.ref f7)))
    (l7 : K.lookup f7 = some ⟨oc7, od7, .func (PySem.W.fnOf "may_get" "Batch.may_get" (defArgs s_Batch_may_get) (defBody s_Batch_may_get) (defScope s_Batch_may_get) .none kV7 dc7 pm7 an7 cd7 ct7), sl7⟩)
    (c7 : PySem.W.codeIn K cd7 "Batch.may_get" = true)
    (k7 : PySem.W.keepIn K (.ref f7) = true)
    (i7 : PySem.W.isFn K (.ref f7) = true)
    (a8 : PySem.W.findIn K (.ref CB) "can_end" = some (some (.ref f8)))
    (l8 : K.lookup f8 = some ⟨oc8, od8, .func (PySem.W.fnOf "can_end" "Batch.can_end" (defArgs s_Batch_can_end) (defBody s_Batch_can_end) (defScope s_Batch_can_end) .none kV8 dc8 pm8 an8 cd8 ct8), sl8⟩)
    (c8 : PySem.W.codeIn K cd8 "Batch.can_end" = true)
    (k8 : PySem.W.keepIn K (.ref f8) = true)
    (i8 : PySem.W.isFn K (.ref f8) = true)
    (a9 : PySem.W.findIn K (.ref CB) "can_go_on" = some (some (.ref f9)))
    (l9 : K.lookup f9 = some ⟨oc9, od9, .func (PySem.W.fnOf "can_go_on" "Batch.can_go_on" (defArgs s_Batch_can_go_on) (defBody s_Batch_can_go_on) (defScope s_Batch_can_go_on) .none kV9 dc9 pm9 an9 cd9 ct9), sl9⟩)
    (c9 : PySem.W.codeIn K cd9 "Batch.can_go_on" = true)
    (k9 : PySem.W.keepIn K (.ref f9) = true)
    (i9 : PySem.W.isFn K (.ref f9) = true)
    (a10 : PySem.W.findIn K (.ref CB) "holding" = some (some (.ref f10)))
    (l10 : K.lookup f10 = some ⟨oc10, od10, .func (PySem.W.fnOf "holding" "Batch.holding" (defArgs s_Batch_holding) (defBody s_Batch_holding) (defScope s_Batch_holding) .none kV10 dc10 pm10 an10 cd10 ct10), sl10⟩)
    (c10 : PySem.W.codeIn K cd10 "Batch.holding" = true)
    (k10 : PySem.W.keepIn K (.ref f10) = true)
    (i10 : PySem.W.isFn K (.ref f10) = true)
    (a11 : PySem.W.findIn K (.ref CB) "waiting" = some (some (.ref f11)))
    (l11 : K.lookup f11 = some ⟨oc11, od11, .func (PySem.W.fnOf "waiting" "Batch.waiting" (defArgs s_Batch_waiting) (defBody s_Batch_waiting) (defScope s_Batch_waiting) .none kV11 dc11 pm11 an11 cd11 ct11), sl11⟩)
    (c11 : PySem.W.codeIn K cd11 "Batch.waiting" = true)
    (k11 : PySem.W.keepIn K (.ref f11) = true)
    (i11 : PySem.W.isFn K (.ref f11) = true)
    (a12 : PySem.W.nsIn K mainGlobals "numbers_of" = some (some (.ref f12)))
    (l12 : K.lookup f12 = some ⟨oc12, od12, .func (PySem.W.fnOf "numbers_of" "numbers_of" (defArgs s_numbers_of) (defBody s_numbers_of) (defScope s_numbers_of) .none kV12 dc12 pm12 an12 cd12 ct12), sl12⟩)
    (c12 : PySem.W.codeIn K cd12 "numbers_of" = true)
    (k12 : PySem.W.keepIn K (.ref f12) = true)
    (a13 : PySem.W.nsIn K mainGlobals "given_back" = some (some (.ref f13)))
    (l13 : K.lookup f13 = some ⟨oc13, od13, .func (PySem.W.fnOf "given_back" "given_back" (defArgs s_given_back) (defBody s_given_back) (defScope s_given_back) .none kV13 dc13 pm13 an13 cd13 ct13), sl13⟩)
    (c13 : PySem.W.codeIn K cd13 "given_back" = true)
    (k13 : PySem.W.keepIn K (.ref f13) = true)
    (a14 : PySem.W.nsIn K mainGlobals "first_that_ends" = some (some (.ref f14)))
    (l14 : K.lookup f14 = some ⟨oc14, od14, .func (PySem.W.fnOf "first_that_ends" "first_that_ends" (defArgs s_first_that_ends) (defBody s_first_that_ends) (defScope s_first_that_ends) .none kV14 dc14 pm14 an14 cd14 ct14), sl14⟩)
    (c14 : PySem.W.codeIn K cd14 "first_that_ends" = true)
    (k14 : PySem.W.keepIn K (.ref f14) = true)
    (a15 : PySem.W.nsIn K mainGlobals "without" = some (some (.ref f15)))
    (l15 : K.lookup f15 = some ⟨oc15, od15, .func (PySem.W.fnOf "without" "without" (defArgs s_without) (defBody s_without) (defScope s_without) .none kV15 dc15 pm15 an15 cd15 ct15), sl15⟩)
    (c15 : PySem.W.codeIn K cd15 "without" = true)
    (k15 : PySem.W.keepIn K (.ref f15) = true)
    (a16 : PySem.W.nsIn K mainGlobals "ended" = some (some (.ref f16)))
    (l16 : K.lookup f16 = some ⟨oc16, od16, .func (PySem.W.fnOf "ended" "ended" (defArgs s_ended) (defBody s_ended) (defScope s_ended) .none kV16 dc16 pm16 an16 cd16 ct16), sl16⟩)
    (c16 : PySem.W.codeIn K cd16 "ended" = true)
    (k16 : PySem.W.keepIn K (.ref f16) = true)
    (a17 : PySem.W.nsIn K mainGlobals "is_safe" = some (some (.ref f17)))
    (l17 : K.lookup f17 = some ⟨oc17, od17, .func (PySem.W.fnOf "is_safe" "is_safe" (defArgs s_is_safe) (defBody s_is_safe) (defScope s_is_safe) .none kV17 dc17 pm17 an17 cd17 ct17), sl17⟩)
    (c17 : PySem.W.codeIn K cd17 "is_safe" = true)
    (k17 : PySem.W.keepIn K (.ref f17) = true)
    (a18 : PySem.W.nsIn K mainGlobals "locked" = some (some (.ref f18)))
    (l18 : K.lookup f18 = some ⟨oc18, od18, .func (PySem.W.fnOf "locked" "locked" (defArgs s_locked) (defBody s_locked) (defScope s_locked) .none kV18 dc18 pm18 an18 cd18 ct18), sl18⟩)
    (c18 : PySem.W.codeIn K cd18 "locked" = true)
    (k18 : PySem.W.keepIn K (.ref f18) = true)
    (a19 : PySem.W.findIn K (.ref CO) "__init__" = some (some (.ref f19)))
    (l19 : K.lookup f19 = some ⟨oc19, od19, .func (PySem.W.fnOf "__init__" "Orders.__init__" (defArgs s_Orders_init) (defBody s_Orders_init) (defScope s_Orders_init) .none kV19 dc19 pm19 an19 cd19 ct19), sl19⟩)
    (c19 : PySem.W.codeIn K cd19 "Orders.__init__" = true)
    (k19 : PySem.W.keepIn K (.ref f19) = true)
    (i19 : PySem.W.isFn K (.ref f19) = true)
    (a20 : PySem.W.findIn K (.ref CO) "free_then" = some (some (.ref f20)))
    (l20 : K.lookup f20 = some ⟨oc20, od20, .func (PySem.W.fnOf "free_then" "Orders.free_then" (defArgs s_Orders_free_then) (defBody s_Orders_free_then) (defScope s_Orders_free_then) .none kV20 dc20 pm20 an20 cd20 ct20), sl20⟩)
    (c20 : PySem.W.codeIn K cd20 "Orders.free_then" = true)
    (k20 : PySem.W.keepIn K (.ref f20) = true)
    (i20 : PySem.W.isFn K (.ref f20) = true)
    (a21 : PySem.W.findIn K (.ref CO) "next_ones" = some (some (.ref f21)))
    (l21 : K.lookup f21 = some ⟨oc21, od21, .func (PySem.W.fnOf "next_ones" "Orders.next_ones" (defArgs s_Orders_next_ones) (defBody s_Orders_next_ones) (defScope s_Orders_next_ones) .none kV21 dc21 pm21 an21 cd21 ct21), sl21⟩)
    (c21 : PySem.W.codeIn K cd21 "Orders.next_ones" = true)
    (k21 : PySem.W.keepIn K (.ref f21) = true)
    (i21 : PySem.W.isFn K (.ref f21) = true)
    (a22 : PySem.W.findIn K (.ref CO) "many" = some (some (.ref f22)))
    (l22 : K.lookup f22 = some ⟨oc22, od22, .func (PySem.W.fnOf "many" "Orders.many" (defArgs s_Orders_many) (defBody s_Orders_many) (defScope s_Orders_many) .none kV22 dc22 pm22 an22 cd22 ct22), sl22⟩)
    (c22 : PySem.W.codeIn K cd22 "Orders.many" = true)
    (k22 : PySem.W.keepIn K (.ref f22) = true)
    (i22 : PySem.W.isFn K (.ref f22) = true)
    (a23 : PySem.W.findIn K (.ref CO) "all_places" = some (some (.ref f23)))
    (l23 : K.lookup f23 = some ⟨oc23, od23, .func (PySem.W.fnOf "all_places" "Orders.all_places" (defArgs s_Orders_all_places) (defBody s_Orders_all_places) (defScope s_Orders_all_places) .none kV23 dc23 pm23 an23 cd23 ct23), sl23⟩)
    (c23 : PySem.W.codeIn K cd23 "Orders.all_places" = true)
    (k23 : PySem.W.keepIn K (.ref f23) = true)
    (i23 : PySem.W.isFn K (.ref f23) = true)
    (a24 : PySem.W.findIn K (.ref CO) "next_place" = some (some (.ref f24)))
    (l24 : K.lookup f24 = some ⟨oc24, od24, .func (PySem.W.fnOf "next_place" "Orders.next_place" (defArgs s_Orders_next_place) (defBody s_Orders_next_place) (defScope s_Orders_next_place) .none kV24 dc24 pm24 an24 cd24 ct24), sl24⟩)
    (c24 : PySem.W.codeIn K cd24 "Orders.next_place" = true)
    (k24 : PySem.W.keepIn K (.ref f24) = true)
    (i24 : PySem.W.isFn K (.ref f24) = true)
    (a25 : PySem.W.findIn K (.ref CO) "order" = some (some (.ref f25)))
    (l25 : K.lookup f25 = some ⟨oc25, od25, .func (PySem.W.fnOf "order" "Orders.order" (defArgs s_Orders_order) (defBody s_Orders_order) (defScope s_Orders_order) .none kV25 dc25 pm25 an25 cd25 ct25), sl25⟩)
    (c25 : PySem.W.codeIn K cd25 "Orders.order" = true)
    (k25 : PySem.W.keepIn K (.ref f25) = true)
    (i25 : PySem.W.isFn K (.ref f25) = true)
    (a26 : PySem.W.nsIn K mainGlobals "less_one" = some (some (.ref f26)))
    (l26 : K.lookup f26 = some ⟨oc26, od26, .func (PySem.W.fnOf "less_one" "less_one" (defArgs s_less_one) (defBody s_less_one) (defScope s_less_one) .none kV26 dc26 pm26 an26 cd26 ct26), sl26⟩)
    (c26 : PySem.W.codeIn K cd26 "less_one" = true)
    (k26 : PySem.W.keepIn K (.ref f26) = true)
    (a27 : PySem.W.nsIn K mainGlobals "all_choices" = some (some (.ref f27)))
    (l27 : K.lookup f27 = some ⟨oc27, od27, .func (PySem.W.fnOf "all_choices" "all_choices" (defArgs s_all_choices) (defBody s_all_choices) (defScope s_all_choices) .none kV27 dc27 pm27 an27 cd27 ct27), sl27⟩)
    (c27 : PySem.W.codeIn K cd27 "all_choices" = true)
    (k27 : PySem.W.keepIn K (.ref f27) = true)
    (a28 : PySem.W.findIn K (.ref CH) "__init__" = some (some (.ref f28)))
    (l28 : K.lookup f28 = some ⟨oc28, od28, .func (PySem.W.fnOf "__init__" "House.__init__" (defArgs s_House_init) (defBody s_House_init) (defScope s_House_init) .none kV28 dc28 pm28 an28 cd28 ct28), sl28⟩)
    (c28 : PySem.W.codeIn K cd28 "House.__init__" = true)
    (k28 : PySem.W.keepIn K (.ref f28) = true)
    (i28 : PySem.W.isFn K (.ref f28) = true)
    (a29 : PySem.W.findIn K (.ref CH) "free" = some (some (.ref f29)))
    (l29 : K.lookup f29 = some ⟨oc29, od29, .func (PySem.W.fnOf "free" "House.free" (defArgs s_House_free) (defBody s_House_free) (defScope s_House_free) .none kV29 dc29 pm29 an29 cd29 ct29), sl29⟩)
    (c29 : PySem.W.codeIn K cd29 "House.free" = true)
    (k29 : PySem.W.keepIn K (.ref f29) = true)
    (i29 : PySem.W.isFn K (.ref f29) = true)
    (a30 : PySem.W.findIn K (.ref CH) "find" = some (some (.ref f30)))
    (l30 : K.lookup f30 = some ⟨oc30, od30, .func (PySem.W.fnOf "find" "House.find" (defArgs s_House_find) (defBody s_House_find) (defScope s_House_find) .none kV30 dc30 pm30 an30 cd30 ct30), sl30⟩)
    (c30 : PySem.W.codeIn K cd30 "House.find" = true)
    (k30 : PySem.W.keepIn K (.ref f30) = true)
    (i30 : PySem.W.isFn K (.ref f30) = true)
    (a31 : PySem.W.findIn K (.ref CH) "with_batch" = some (some (.ref f31)))
    (l31 : K.lookup f31 = some ⟨oc31, od31, .func (PySem.W.fnOf "with_batch" "House.with_batch" (defArgs s_House_with_batch) (defBody s_House_with_batch) (defScope s_House_with_batch) .none kV31 dc31 pm31 an31 cd31 ct31), sl31⟩)
    (c31 : PySem.W.codeIn K cd31 "House.with_batch" = true)
    (k31 : PySem.W.keepIn K (.ref f31) = true)
    (i31 : PySem.W.isFn K (.ref f31) = true)
    (a32 : PySem.W.findIn K (.ref CH) "with_more" = some (some (.ref f32)))
    (l32 : K.lookup f32 = some ⟨oc32, od32, .func (PySem.W.fnOf "with_more" "House.with_more" (defArgs s_House_with_more) (defBody s_House_with_more) (defScope s_House_with_more) .none kV32 dc32 pm32 an32 cd32 ct32), sl32⟩)
    (c32 : PySem.W.codeIn K cd32 "House.with_more" = true)
    (k32 : PySem.W.keepIn K (.ref f32) = true)
    (i32 : PySem.W.isFn K (.ref f32) = true)
    (a33 : PySem.W.findIn K (.ref CH) "stuck_with" = some (some (.ref f33)))
    (l33 : K.lookup f33 = some ⟨oc33, od33, .func (PySem.W.fnOf "stuck_with" "House.stuck_with" (defArgs s_House_stuck_with) (defBody s_House_stuck_with) (defScope s_House_stuck_with) .none kV33 dc33 pm33 an33 cd33 ct33), sl33⟩)
    (c33 : PySem.W.codeIn K cd33 "House.stuck_with" = true)
    (k33 : PySem.W.keepIn K (.ref f33) = true)
    (i33 : PySem.W.isFn K (.ref f33) = true)
    (a34 : PySem.W.findIn K (.ref CH) "can_grant" = some (some (.ref f34)))
    (l34 : K.lookup f34 = some ⟨oc34, od34, .func (PySem.W.fnOf "can_grant" "House.can_grant" (defArgs s_House_can_grant) (defBody s_House_can_grant) (defScope s_House_can_grant) .none kV34 dc34 pm34 an34 cd34 ct34), sl34⟩)
    (c34 : PySem.W.codeIn K cd34 "House.can_grant" = true)
    (k34 : PySem.W.keepIn K (.ref f34) = true)
    (i34 : PySem.W.isFn K (.ref f34) = true)
    (a35 : PySem.W.findIn K (.ref CH) "is_safe" = some (some (.ref f35)))
    (l35 : K.lookup f35 = some ⟨oc35, od35, .func (PySem.W.fnOf "is_safe" "House.is_safe" (defArgs s_House_is_safe) (defBody s_House_is_safe) (defScope s_House_is_safe) .none kV35 dc35 pm35 an35 cd35 ct35), sl35⟩)
    (c35 : PySem.W.codeIn K cd35 "House.is_safe" = true)
    (k35 : PySem.W.keepIn K (.ref f35) = true)
    (i35 : PySem.W.isFn K (.ref f35) = true)
    (a36 : PySem.W.findIn K (.ref CH) "ask" = some (some (.ref f36)))
    (l36 : K.lookup f36 = some ⟨oc36, od36, .func (PySem.W.fnOf "ask" "House.ask" (defArgs s_House_ask) (defBody s_House_ask) (defScope s_House_ask) .none kV36 dc36 pm36 an36 cd36 ct36), sl36⟩)
    (c36 : PySem.W.codeIn K cd36 "House.ask" = true)
    (k36 : PySem.W.keepIn K (.ref f36) = true)
    (i36 : PySem.W.isFn K (.ref f36) = true)
    (a37 : PySem.W.findIn K (.ref CH) "waiting" = some (some (.ref f37)))
    (l37 : K.lookup f37 = some ⟨oc37, od37, .func (PySem.W.fnOf "waiting" "House.waiting" (defArgs s_House_waiting) (defBody s_House_waiting) (defScope s_House_waiting) .none kV37 dc37 pm37 an37 cd37 ct37), sl37⟩)
    (c37 : PySem.W.codeIn K cd37 "House.waiting" = true)
    (k37 : PySem.W.keepIn K (.ref f37) = true)
    (i37 : PySem.W.isFn K (.ref f37) = true)
    (a38 : PySem.W.findIn K (.ref CH) "look_again" = some (some (.ref f38)))
    (l38 : K.lookup f38 = some ⟨oc38, od38, .func (PySem.W.fnOf "look_again" "House.look_again" (defArgs s_House_look_again) (defBody s_House_look_again) (defScope s_House_look_again) .none kV38 dc38 pm38 an38 cd38 ct38), sl38⟩)
    (c38 : PySem.W.codeIn K cd38 "House.look_again" = true)
    (k38 : PySem.W.keepIn K (.ref f38) = true)
    (i38 : PySem.W.isFn K (.ref f38) = true)
    (a39 : PySem.W.findIn K (.ref CH) "room" = some (some (.ref f39)))
    (l39 : K.lookup f39 = some ⟨oc39, od39, .func (PySem.W.fnOf "room" "House.room" (defArgs s_House_room) (defBody s_House_room) (defScope s_House_room) .none kV39 dc39 pm39 an39 cd39 ct39), sl39⟩)
    (c39 : PySem.W.codeIn K cd39 "House.room" = true)
    (k39 : PySem.W.keepIn K (.ref f39) = true)
    (i39 : PySem.W.isFn K (.ref f39) = true)
    (a40 : PySem.W.findIn K (.ref CH) "copies" = some (some (.ref f40)))
    (l40 : K.lookup f40 = some ⟨oc40, od40, .func (PySem.W.fnOf "copies" "House.copies" (defArgs s_House_copies) (defBody s_House_copies) (defScope s_House_copies) .none kV40 dc40 pm40 an40 cd40 ct40), sl40⟩)
    (c40 : PySem.W.codeIn K cd40 "House.copies" = true)
    (k40 : PySem.W.keepIn K (.ref f40) = true)
    (i40 : PySem.W.isFn K (.ref f40) = true)
    (a41 : PySem.W.findIn K (.ref CH) "is_safe_with" = some (some (.ref f41)))
    (l41 : K.lookup f41 = some ⟨oc41, od41, .func (PySem.W.fnOf "is_safe_with" "House.is_safe_with" (defArgs s_House_is_safe_with) (defBody s_House_is_safe_with) (defScope s_House_is_safe_with) .none kV41 dc41 pm41 an41 cd41 ct41), sl41⟩)
    (c41 : PySem.W.codeIn K cd41 "House.is_safe_with" = true)
    (k41 : PySem.W.keepIn K (.ref f41) = true)
    (i41 : PySem.W.isFn K (.ref f41) = true)
    (a42 : PySem.W.findIn K (.ref CH) "lack" = some (some (.ref f42)))
    (l42 : K.lookup f42 = some ⟨oc42, od42, .func (PySem.W.fnOf "lack" "House.lack" (defArgs s_House_lack) (defBody s_House_lack) (defScope s_House_lack) .none kV42 dc42 pm42 an42 cd42 ct42), sl42⟩)
    (c42 : PySem.W.codeIn K cd42 "House.lack" = true)
    (k42 : PySem.W.keepIn K (.ref f42) = true)
    (i42 : PySem.W.isFn K (.ref f42) = true)
    (a43 : PySem.W.findIn K (.ref CH) "is_safe_without" = some (some (.ref f43)))
    (l43 : K.lookup f43 = some ⟨oc43, od43, .func (PySem.W.fnOf "is_safe_without" "House.is_safe_without" (defArgs s_House_is_safe_without) (defBody s_House_is_safe_without) (defScope s_House_is_safe_without) .none kV43 dc43 pm43 an43 cd43 ct43), sl43⟩)
    (c43 : PySem.W.codeIn K cd43 "House.is_safe_without" = true)
    (k43 : PySem.W.keepIn K (.ref f43) = true)
    (i43 : PySem.W.isFn K (.ref f43) = true)
    (a44 : PySem.W.findIn K (.ref CH) "all_victims" = some (some (.ref f44)))
    (l44 : K.lookup f44 = some ⟨oc44, od44, .func (PySem.W.fnOf "all_victims" "House.all_victims" (defArgs s_House_all_victims) (defBody s_House_all_victims) (defScope s_House_all_victims) .none kV44 dc44 pm44 an44 cd44 ct44), sl44⟩)
    (c44 : PySem.W.codeIn K cd44 "House.all_victims" = true)
    (k44 : PySem.W.keepIn K (.ref f44) = true)
    (i44 : PySem.W.isFn K (.ref f44) = true)
    (a45 : PySem.W.findIn K (.ref CH) "cheapest" = some (some (.ref f45)))
    (l45 : K.lookup f45 = some ⟨oc45, od45, .func (PySem.W.fnOf "cheapest" "House.cheapest" (defArgs s_House_cheapest) (defBody s_House_cheapest) (defScope s_House_cheapest) .none kV45 dc45 pm45 an45 cd45 ct45), sl45⟩)
    (c45 : PySem.W.codeIn K cd45 "House.cheapest" = true)
    (k45 : PySem.W.keepIn K (.ref f45) = true)
    (i45 : PySem.W.isFn K (.ref f45) = true)
    (a46 : PySem.W.findIn K (.ref CH) "all_orders" = some (some (.ref f46)))
    (l46 : K.lookup f46 = some ⟨oc46, od46, .func (PySem.W.fnOf "all_orders" "House.all_orders" (defArgs s_House_all_orders) (defBody s_House_all_orders) (defScope s_House_all_orders) .none kV46 dc46 pm46 an46 cd46 ct46), sl46⟩)
    (c46 : PySem.W.codeIn K cd46 "House.all_orders" = true)
    (k46 : PySem.W.keepIn K (.ref f46) = true)
    (i46 : PySem.W.isFn K (.ref f46) = true)
    (a47 : PySem.W.findIn K (.ref CH) "first_that_cannot" = some (some (.ref f47)))
    (l47 : K.lookup f47 = some ⟨oc47, od47, .func (PySem.W.fnOf "first_that_cannot" "House.first_that_cannot" (defArgs s_House_first_that_cannot) (defBody s_House_first_that_cannot) (defScope s_House_first_that_cannot) .none kV47 dc47 pm47 an47 cd47 ct47), sl47⟩)
    (c47 : PySem.W.codeIn K cd47 "House.first_that_cannot" = true)
    (k47 : PySem.W.keepIn K (.ref f47) = true)
    (i47 : PySem.W.isFn K (.ref f47) = true)
    (a48 : PySem.W.findIn K (.ref CH) "do_block" = some (some (.ref f48)))
    (l48 : K.lookup f48 = some ⟨oc48, od48, .func (PySem.W.fnOf "do_block" "House.do_block" (defArgs s_House_do_block) (defBody s_House_do_block) (defScope s_House_do_block) .none kV48 dc48 pm48 an48 cd48 ct48), sl48⟩)
    (c48 : PySem.W.codeIn K cd48 "House.do_block" = true)
    (k48 : PySem.W.keepIn K (.ref f48) = true)
    (i48 : PySem.W.isFn K (.ref f48) = true)
    (a49 : PySem.W.findIn K (.ref CH) "locked" = some (some (.ref f49)))
    (l49 : K.lookup f49 = some ⟨oc49, od49, .func (PySem.W.fnOf "locked" "House.locked" (defArgs s_House_locked) (defBody s_House_locked) (defScope s_House_locked) .none kV49 dc49 pm49 an49 cd49 ct49), sl49⟩)
    (c49 : PySem.W.codeIn K cd49 "House.locked" = true)
    (k49 : PySem.W.keepIn K (.ref f49) = true)
    (i49 : PySem.W.isFn K (.ref f49) = true)
    (a50 : PySem.W.findIn K (.ref CH) "add" = some (some (.ref f50)))
    (l50 : K.lookup f50 = some ⟨oc50, od50, .func (PySem.W.fnOf "add" "House.add" (defArgs s_House_add) (defBody s_House_add) (defScope s_House_add) .none kV50 dc50 pm50 an50 cd50 ct50), sl50⟩)
    (c50 : PySem.W.codeIn K cd50 "House.add" = true)
    (k50 : PySem.W.keepIn K (.ref f50) = true)
    (i50 : PySem.W.isFn K (.ref f50) = true)
    (a51 : PySem.W.findIn K (.ref CH) "remove" = some (some (.ref f51)))
    (l51 : K.lookup f51 = some ⟨oc51, od51, .func (PySem.W.fnOf "remove" "House.remove" (defArgs s_House_remove) (defBody s_House_remove) (defScope s_House_remove) .none kV51 dc51 pm51 an51 cd51 ct51), sl51⟩)
    (c51 : PySem.W.codeIn K cd51 "House.remove" = true)
    (k51 : PySem.W.keepIn K (.ref f51) = true)
    (i51 : PySem.W.isFn K (.ref f51) = true)
    (a52 : PySem.W.findIn K (.ref CX) "__init__" = some (some (.ref f52)))
    (l52 : K.lookup f52 = some ⟨oc52, od52, .func (PySem.W.fnOf "__init__" "Refused.__init__" (defArgs s_Refused_init) (defBody s_Refused_init) (defScope s_Refused_init) .none kV52 dc52 pm52 an52 cd52 ct52), sl52⟩)
    (c52 : PySem.W.codeIn K cd52 "Refused.__init__" = true)
    (k52 : PySem.W.keepIn K (.ref f52) = true)
    (i52 : PySem.W.isFn K (.ref f52) = true)
    (a53 : PySem.W.nsIn K mainGlobals "want" = some (some (.ref f53)))
    (l53 : K.lookup f53 = some ⟨oc53, od53, .func (PySem.W.fnOf "want" "want" (defArgs s_want) (defBody s_want) (defScope s_want) .none kV53 dc53 pm53 an53 cd53 ct53), sl53⟩)
    (c53 : PySem.W.codeIn K cd53 "want" = true)
    (k53 : PySem.W.keepIn K (.ref f53) = true)
    (a54 : PySem.W.nsIn K mainGlobals "listed" = some (some (.ref f54)))
    (l54 : K.lookup f54 = some ⟨oc54, od54, .func (PySem.W.fnOf "listed" "listed" (defArgs s_listed) (defBody s_listed) (defScope s_listed) .none kV54 dc54 pm54 an54 cd54 ct54), sl54⟩)
    (c54 : PySem.W.codeIn K cd54 "listed" = true)
    (k54 : PySem.W.keepIn K (.ref f54) = true)
    (a55 : PySem.W.nsIn K mainGlobals "are_numbers" = some (some (.ref f55)))
    (l55 : K.lookup f55 = some ⟨oc55, od55, .func (PySem.W.fnOf "are_numbers" "are_numbers" (defArgs s_are_numbers) (defBody s_are_numbers) (defScope s_are_numbers) .none kV55 dc55 pm55 an55 cd55 ct55), sl55⟩)
    (c55 : PySem.W.codeIn K cd55 "are_numbers" = true)
    (k55 : PySem.W.keepIn K (.ref f55) = true)
    (a56 : PySem.W.findIn K (.ref CD) "__init__" = some (some (.ref f56)))
    (l56 : K.lookup f56 = some ⟨oc56, od56, .func (PySem.W.fnOf "__init__" "Desk.__init__" (defArgs s_Desk_init) (defBody s_Desk_init) (defScope s_Desk_init) .none kV56 dc56 pm56 an56 cd56 ct56), sl56⟩)
    (c56 : PySem.W.codeIn K cd56 "Desk.__init__" = true)
    (k56 : PySem.W.keepIn K (.ref f56) = true)
    (i56 : PySem.W.isFn K (.ref f56) = true)
    (a57 : PySem.W.findIn K (.ref CD) "want_list" = some (some (.ref f57)))
    (l57 : K.lookup f57 = some ⟨oc57, od57, .func (PySem.W.fnOf "want_list" "Desk.want_list" (defArgs s_Desk_want_list) (defBody s_Desk_want_list) (defScope s_Desk_want_list) .none kV57 dc57 pm57 an57 cd57 ct57), sl57⟩)
    (c57 : PySem.W.codeIn K cd57 "Desk.want_list" = true)
    (k57 : PySem.W.keepIn K (.ref f57) = true)
    (i57 : PySem.W.isFn K (.ref f57) = true)
    (a58 : PySem.W.findIn K (.ref CD) "batch_of" = some (some (.ref f58)))
    (l58 : K.lookup f58 = some ⟨oc58, od58, .func (PySem.W.fnOf "batch_of" "Desk.batch_of" (defArgs s_Desk_batch_of) (defBody s_Desk_batch_of) (defScope s_Desk_batch_of) .none kV58 dc58 pm58 an58 cd58 ct58), sl58⟩)
    (c58 : PySem.W.codeIn K cd58 "Desk.batch_of" = true)
    (k58 : PySem.W.keepIn K (.ref f58) = true)
    (i58 : PySem.W.isFn K (.ref f58) = true)
    (a59 : PySem.W.findIn K (.ref CD) "want_kind" = some (some (.ref f59)))
    (l59 : K.lookup f59 = some ⟨oc59, od59, .func (PySem.W.fnOf "want_kind" "Desk.want_kind" (defArgs s_Desk_want_kind) (defBody s_Desk_want_kind) (defScope s_Desk_want_kind) .none kV59 dc59 pm59 an59 cd59 ct59), sl59⟩)
    (c59 : PySem.W.codeIn K cd59 "Desk.want_kind" = true)
    (k59 : PySem.W.keepIn K (.ref f59) = true)
    (i59 : PySem.W.isFn K (.ref f59) = true)
    (a60 : PySem.W.findIn K (.ref CD) "begin" = some (some (.ref f60)))
    (l60 : K.lookup f60 = some ⟨oc60, od60, .func (PySem.W.fnOf "begin" "Desk.begin" (defArgs s_Desk_begin) (defBody s_Desk_begin) (defScope s_Desk_begin) .none kV60 dc60 pm60 an60 cd60 ct60), sl60⟩)
    (c60 : PySem.W.codeIn K cd60 "Desk.begin" = true)
    (k60 : PySem.W.keepIn K (.ref f60) = true)
    (i60 : PySem.W.isFn K (.ref f60) = true)
    (a61 : PySem.W.findIn K (.ref CD) "add_batch" = some (some (.ref f61)))
    (l61 : K.lookup f61 = some ⟨oc61, od61, .func (PySem.W.fnOf "add_batch" "Desk.add_batch" (defArgs s_Desk_add_batch) (defBody s_Desk_add_batch) (defScope s_Desk_add_batch) .none kV61 dc61 pm61 an61 cd61 ct61), sl61⟩)
    (c61 : PySem.W.codeIn K cd61 "Desk.add_batch" = true)
    (k61 : PySem.W.keepIn K (.ref f61) = true)
    (i61 : PySem.W.isFn K (.ref f61) = true)
    (a62 : PySem.W.findIn K (.ref CD) "ask" = some (some (.ref f62)))
    (l62 : K.lookup f62 = some ⟨oc62, od62, .func (PySem.W.fnOf "ask" "Desk.ask" (defArgs s_Desk_ask) (defBody s_Desk_ask) (defScope s_Desk_ask) .none kV62 dc62 pm62 an62 cd62 ct62), sl62⟩)
    (c62 : PySem.W.codeIn K cd62 "Desk.ask" = true)
    (k62 : PySem.W.keepIn K (.ref f62) = true)
    (i62 : PySem.W.isFn K (.ref f62) = true)
    (a63 : PySem.W.findIn K (.ref CD) "give" = some (some (.ref f63)))
    (l63 : K.lookup f63 = some ⟨oc63, od63, .func (PySem.W.fnOf "give" "Desk.give" (defArgs s_Desk_give) (defBody s_Desk_give) (defScope s_Desk_give) .none kV63 dc63 pm63 an63 cd63 ct63), sl63⟩)
    (c63 : PySem.W.codeIn K cd63 "Desk.give" = true)
    (k63 : PySem.W.keepIn K (.ref f63) = true)
    (i63 : PySem.W.isFn K (.ref f63) = true)
    (a64 : PySem.W.findIn K (.ref CD) "looked_again" = some (some (.ref f64)))
    (l64 : K.lookup f64 = some ⟨oc64, od64, .func (PySem.W.fnOf "looked_again" "Desk.looked_again" (defArgs s_Desk_looked_again) (defBody s_Desk_looked_again) (defScope s_Desk_looked_again) .none kV64 dc64 pm64 an64 cd64 ct64), sl64⟩)
    (c64 : PySem.W.codeIn K cd64 "Desk.looked_again" = true)
    (k64 : PySem.W.keepIn K (.ref f64) = true)
    (i64 : PySem.W.isFn K (.ref f64) = true)
    (a65 : PySem.W.findIn K (.ref CD) "back" = some (some (.ref f65)))
    (l65 : K.lookup f65 = some ⟨oc65, od65, .func (PySem.W.fnOf "back" "Desk.back" (defArgs s_Desk_back) (defBody s_Desk_back) (defScope s_Desk_back) .none kV65 dc65 pm65 an65 cd65 ct65), sl65⟩)
    (c65 : PySem.W.codeIn K cd65 "Desk.back" = true)
    (k65 : PySem.W.keepIn K (.ref f65) = true)
    (i65 : PySem.W.isFn K (.ref f65) = true)
    (a66 : PySem.W.findIn K (.ref CD) "end" = some (some (.ref f66)))
    (l66 : K.lookup f66 = some ⟨oc66, od66, .func (PySem.W.fnOf "end" "Desk.end" (defArgs s_Desk_end) (defBody s_Desk_end) (defScope s_Desk_end) .none kV66 dc66 pm66 an66 cd66 ct66), sl66⟩)
    (c66 : PySem.W.codeIn K cd66 "Desk.end" = true)
    (k66 : PySem.W.keepIn K (.ref f66) = true)
    (i66 : PySem.W.isFn K (.ref f66) = true)
    (a67 : PySem.W.findIn K (.ref CD) "drop" = some (some (.ref f67)))
    (l67 : K.lookup f67 = some ⟨oc67, od67, .func (PySem.W.fnOf "drop" "Desk.drop" (defArgs s_Desk_drop) (defBody s_Desk_drop) (defScope s_Desk_drop) .none kV67 dc67 pm67 an67 cd67 ct67), sl67⟩)
    (c67 : PySem.W.codeIn K cd67 "Desk.drop" = true)
    (k67 : PySem.W.keepIn K (.ref f67) = true)
    (i67 : PySem.W.isFn K (.ref f67) = true)
    (a68 : PySem.W.findIn K (.ref CD) "add_copies" = some (some (.ref f68)))
    (l68 : K.lookup f68 = some ⟨oc68, od68, .func (PySem.W.fnOf "add_copies" "Desk.add_copies" (defArgs s_Desk_add_copies) (defBody s_Desk_add_copies) (defScope s_Desk_add_copies) .none kV68 dc68 pm68 an68 cd68 ct68), sl68⟩)
    (c68 : PySem.W.codeIn K cd68 "Desk.add_copies" = true)
    (k68 : PySem.W.keepIn K (.ref f68) = true)
    (i68 : PySem.W.isFn K (.ref f68) = true)
    (a69 : PySem.W.findIn K (.ref CD) "safe" = some (some (.ref f69)))
    (l69 : K.lookup f69 = some ⟨oc69, od69, .func (PySem.W.fnOf "safe" "Desk.safe" (defArgs s_Desk_safe) (defBody s_Desk_safe) (defScope s_Desk_safe) .none kV69 dc69 pm69 an69 cd69 ct69), sl69⟩)
    (c69 : PySem.W.codeIn K cd69 "Desk.safe" = true)
    (k69 : PySem.W.keepIn K (.ref f69) = true)
    (i69 : PySem.W.isFn K (.ref f69) = true)
    (a70 : PySem.W.findIn K (.ref CD) "could" = some (some (.ref f70)))
    (l70 : K.lookup f70 = some ⟨oc70, od70, .func (PySem.W.fnOf "could" "Desk.could" (defArgs s_Desk_could) (defBody s_Desk_could) (defScope s_Desk_could) .none kV70 dc70 pm70 an70 cd70 ct70), sl70⟩)
    (c70 : PySem.W.codeIn K cd70 "Desk.could" = true)
    (k70 : PySem.W.keepIn K (.ref f70) = true)
    (i70 : PySem.W.isFn K (.ref f70) = true)
    (a71 : PySem.W.findIn K (.ref CD) "room" = some (some (.ref f71)))
    (l71 : K.lookup f71 = some ⟨oc71, od71, .func (PySem.W.fnOf "room" "Desk.room" (defArgs s_Desk_room) (defBody s_Desk_room) (defScope s_Desk_room) .none kV71 dc71 pm71 an71 cd71 ct71), sl71⟩)
    (c71 : PySem.W.codeIn K cd71 "Desk.room" = true)
    (k71 : PySem.W.keepIn K (.ref f71) = true)
    (i71 : PySem.W.isFn K (.ref f71) = true)
    (a72 : PySem.W.findIn K (.ref CD) "lack" = some (some (.ref f72)))
    (l72 : K.lookup f72 = some ⟨oc72, od72, .func (PySem.W.fnOf "lack" "Desk.lack" (defArgs s_Desk_lack) (defBody s_Desk_lack) (defScope s_Desk_lack) .none kV72 dc72 pm72 an72 cd72 ct72), sl72⟩)
    (c72 : PySem.W.codeIn K cd72 "Desk.lack" = true)
    (k72 : PySem.W.keepIn K (.ref f72) = true)
    (i72 : PySem.W.isFn K (.ref f72) = true)
    (a73 : PySem.W.findIn K (.ref CD) "want_batches" = some (some (.ref f73)))
    (l73 : K.lookup f73 = some ⟨oc73, od73, .func (PySem.W.fnOf "want_batches" "Desk.want_batches" (defArgs s_Desk_want_batches) (defBody s_Desk_want_batches) (defScope s_Desk_want_batches) .none kV73 dc73 pm73 an73 cd73 ct73), sl73⟩)
    (c73 : PySem.W.codeIn K cd73 "Desk.want_batches" = true)
    (k73 : PySem.W.keepIn K (.ref f73) = true)
    (i73 : PySem.W.isFn K (.ref f73) = true)
    (a74 : PySem.W.findIn K (.ref CD) "cheapest" = some (some (.ref f74)))
    (l74 : K.lookup f74 = some ⟨oc74, od74, .func (PySem.W.fnOf "cheapest" "Desk.cheapest" (defArgs s_Desk_cheapest) (defBody s_Desk_cheapest) (defScope s_Desk_cheapest) .none kV74 dc74 pm74 an74 cd74 ct74), sl74⟩)
    (c74 : PySem.W.codeIn K cd74 "Desk.cheapest" = true)
    (k74 : PySem.W.keepIn K (.ref f74) = true)
    (i74 : PySem.W.isFn K (.ref f74) = true)
    (a75 : PySem.W.findIn K (.ref CD) "many_orders" = some (some (.ref f75)))
    (l75 : K.lookup f75 = some ⟨oc75, od75, .func (PySem.W.fnOf "many_orders" "Desk.many_orders" (defArgs s_Desk_many_orders) (defBody s_Desk_many_orders) (defScope s_Desk_many_orders) .none kV75 dc75 pm75 an75 cd75 ct75), sl75⟩)
    (c75 : PySem.W.codeIn K cd75 "Desk.many_orders" = true)
    (k75 : PySem.W.keepIn K (.ref f75) = true)
    (i75 : PySem.W.isFn K (.ref f75) = true)
    (a76 : PySem.W.findIn K (.ref CD) "order" = some (some (.ref f76)))
    (l76 : K.lookup f76 = some ⟨oc76, od76, .func (PySem.W.fnOf "order" "Desk.order" (defArgs s_Desk_order) (defBody s_Desk_order) (defScope s_Desk_order) .none kV76 dc76 pm76 an76 cd76 ct76), sl76⟩)
    (c76 : PySem.W.codeIn K cd76 "Desk.order" = true)
    (k76 : PySem.W.keepIn K (.ref f76) = true)
    (i76 : PySem.W.isFn K (.ref f76) = true)
    (a77 : PySem.W.findIn K (.ref CD) "check" = some (some (.ref f77)))
    (l77 : K.lookup f77 = some ⟨oc77, od77, .func (PySem.W.fnOf "check" "Desk.check" (defArgs s_Desk_check) (defBody s_Desk_check) (defScope s_Desk_check) .none kV77 dc77 pm77 an77 cd77 ct77), sl77⟩)
    (c77 : PySem.W.codeIn K cd77 "Desk.check" = true)
    (k77 : PySem.W.keepIn K (.ref f77) = true)
    (i77 : PySem.W.isFn K (.ref f77) = true)
    (a78 : PySem.W.findIn K (.ref CD) "blocks" = some (some (.ref f78)))
    (l78 : K.lookup f78 = some ⟨oc78, od78, .func (PySem.W.fnOf "blocks" "Desk.blocks" (defArgs s_Desk_blocks) (defBody s_Desk_blocks) (defScope s_Desk_blocks) .none kV78 dc78 pm78 an78 cd78 ct78), sl78⟩)
    (c78 : PySem.W.codeIn K cd78 "Desk.blocks" = true)
    (k78 : PySem.W.keepIn K (.ref f78) = true)
    (i78 : PySem.W.isFn K (.ref f78) = true)
    (a79 : PySem.W.findIn K (.ref CD) "told_of" = some (some (.ref f79)))
    (l79 : K.lookup f79 = some ⟨oc79, od79, .func (PySem.W.fnOf "told_of" "Desk.told_of" (defArgs s_Desk_told_of) (defBody s_Desk_told_of) (defScope s_Desk_told_of) .none kV79 dc79 pm79 an79 cd79 ct79), sl79⟩)
    (c79 : PySem.W.codeIn K cd79 "Desk.told_of" = true)
    (k79 : PySem.W.keepIn K (.ref f79) = true)
    (i79 : PySem.W.isFn K (.ref f79) = true)
    (a80 : PySem.W.findIn K (.ref CD) "all_told" = some (some (.ref f80)))
    (l80 : K.lookup f80 = some ⟨oc80, od80, .func (PySem.W.fnOf "all_told" "Desk.all_told" (defArgs s_Desk_all_told) (defBody s_Desk_all_told) (defScope s_Desk_all_told) .none kV80 dc80 pm80 an80 cd80 ct80), sl80⟩)
    (c80 : PySem.W.codeIn K cd80 "Desk.all_told" = true)
    (k80 : PySem.W.keepIn K (.ref f80) = true)
    (i80 : PySem.W.isFn K (.ref f80) = true)
    (a81 : PySem.W.findIn K (.ref CD) "of_batch" = some (some (.ref f81)))
    (l81 : K.lookup f81 = some ⟨oc81, od81, .func (PySem.W.fnOf "of_batch" "Desk.of_batch" (defArgs s_Desk_of_batch) (defBody s_Desk_of_batch) (defScope s_Desk_of_batch) .none kV81 dc81 pm81 an81 cd81 ct81), sl81⟩)
    (c81 : PySem.W.codeIn K cd81 "Desk.of_batch" = true)
    (k81 : PySem.W.keepIn K (.ref f81) = true)
    (i81 : PySem.W.isFn K (.ref f81) = true)
    (a82 : PySem.W.findIn K (.ref CD) "of_row" = some (some (.ref f82)))
    (l82 : K.lookup f82 = some ⟨oc82, od82, .func (PySem.W.fnOf "of_row" "Desk.of_row" (defArgs s_Desk_of_row) (defBody s_Desk_of_row) (defScope s_Desk_of_row) .none kV82 dc82 pm82 an82 cd82 ct82), sl82⟩)
    (c82 : PySem.W.codeIn K cd82 "Desk.of_row" = true)
    (k82 : PySem.W.keepIn K (.ref f82) = true)
    (i82 : PySem.W.isFn K (.ref f82) = true)
    (a83 : PySem.W.findIn K (.ref CD) "asked" = some (some (.ref f83)))
    (l83 : K.lookup f83 = some ⟨oc83, od83, .func (PySem.W.fnOf "asked" "Desk.asked" (defArgs s_Desk_asked) (defBody s_Desk_asked) (defScope s_Desk_asked) .none kV83 dc83 pm83 an83 cd83 ct83), sl83⟩)
    (c83 : PySem.W.codeIn K cd83 "Desk.asked" = true)
    (k83 : PySem.W.keepIn K (.ref f83) = true)
    (i83 : PySem.W.isFn K (.ref f83) = true)
    (a84 : PySem.W.findIn K (.ref CD) "done" = some (some (.ref f84)))
    (l84 : K.lookup f84 = some ⟨oc84, od84, .func (PySem.W.fnOf "done" "Desk.done" (defArgs s_Desk_done) (defBody s_Desk_done) (defScope s_Desk_done) .none kV84 dc84 pm84 an84 cd84 ct84), sl84⟩)
    (c84 : PySem.W.codeIn K cd84 "Desk.done" = true)
    (k84 : PySem.W.keepIn K (.ref f84) = true)
    (i84 : PySem.W.isFn K (.ref f84) = true)
    (a85 : PySem.W.findIn K (.ref CD) "answer" = some (some (.ref f85)))
    (l85 : K.lookup f85 = some ⟨oc85, od85, .func (PySem.W.fnOf "answer" "Desk.answer" (defArgs s_Desk_answer) (defBody s_Desk_answer) (defScope s_Desk_answer) .none kV85 dc85 pm85 an85 cd85 ct85), sl85⟩)
    (c85 : PySem.W.codeIn K cd85 "Desk.answer" = true)
    (k85 : PySem.W.keepIn K (.ref f85) = true)
    (i85 : PySem.W.isFn K (.ref f85) = true)
    (a86 : PySem.W.nsIn K mainGlobals "rows_at" = some (some (.ref f86)))
    (l86 : K.lookup f86 = some ⟨oc86, od86, .func (PySem.W.fnOf "rows_at" "rows_at" (defArgs s_rows_at) (defBody s_rows_at) (defScope s_rows_at) .none kV86 dc86 pm86 an86 cd86 ct86), sl86⟩)
    (c86 : PySem.W.codeIn K cd86 "rows_at" = true)
    (k86 : PySem.W.keepIn K (.ref f86) = true)
    (a87 : PySem.W.nsIn K mainGlobals "answers" = some (some (.ref f87)))
    (l87 : K.lookup f87 = some ⟨oc87, od87, .func (PySem.W.fnOf "answers" "answers" (defArgs s_answers) (defBody s_answers) (defScope s_answers) .none kV87 dc87 pm87 an87 cd87 ct87), sl87⟩)
    (c87 : PySem.W.codeIn K cd87 "answers" = true)
    (k87 : PySem.W.keepIn K (.ref f87) = true)
    (al_is_safe_ends : PySem.W.nsIn K mainGlobals "is_safe_ends" = some (some (.ref f17)))
    (al_locked_ends : PySem.W.nsIn K mainGlobals "locked_ends" = some (some (.ref f18)))
    (pgB : PySem.W.plainGet K CB Str.empty = true)
    (hdB : PySem.W.hasDictIn K CB = true)
    (poB : PySem.W.plainOver K CB = true)
    (saB : PySem.W.findIn K (.ref CB) "__setattr__" = some (some (.builtin "object.__setattr__")))
    (mB : PySem.W.makesIn K CB = true)
    (pB : PySem.W.keepIn K (.ref CB) = true)
    (pgR : PySem.W.plainGet K CR Str.empty = true)
    (hdR : PySem.W.hasDictIn K CR = true)
    (poR : PySem.W.plainOver K CR = true)
    (saR : PySem.W.findIn K (.ref CR) "__setattr__" = some (some (.builtin "object.__setattr__")))
    (mR : PySem.W.makesIn K CR = true)
    (pR : PySem.W.keepIn K (.ref CR) = true)
    (pgH : PySem.W.plainGet K CH Str.empty = true)
    (hdH : PySem.W.hasDictIn K CH = true)
    (poH : PySem.W.plainOver K CH = true)
    (saH : PySem.W.findIn K (.ref CH) "__setattr__" = some (some (.builtin "object.__setattr__")))
    (mH : PySem.W.makesIn K CH = true)
    (pH : PySem.W.keepIn K (.ref CH) = true)
    (pgD : PySem.W.plainGet K CD Str.empty = true)
    (hdD : PySem.W.hasDictIn K CD = true)
    (poD : PySem.W.plainOver K CD = true)
    (saD : PySem.W.findIn K (.ref CD) "__setattr__" = some (some (.builtin "object.__setattr__")))
    (mD : PySem.W.makesIn K CD = true)
    (pD : PySem.W.keepIn K (.ref CD) = true)
    (pgO : PySem.W.plainGet K CO Str.empty = true)
    (hdO : PySem.W.hasDictIn K CO = true)
    (poO : PySem.W.plainOver K CO = true)
    (saO : PySem.W.findIn K (.ref CO) "__setattr__" = some (some (.builtin "object.__setattr__")))
    (mO : PySem.W.makesIn K CO = true)
    (pO : PySem.W.keepIn K (.ref CO) = true)
    (nB_number : PySem.W.findIn K (.ref CB) "number" = some none)
    (nB_alternatives : PySem.W.findIn K (.ref CB) "alternatives" = some none)
    (nB_held : PySem.W.findIn K (.ref CB) "held" = some none)
    (nB_request : PySem.W.findIn K (.ref CB) "request" = some none)
    (nR_number : PySem.W.findIn K (.ref CR) "number" = some none)
    (nR_things : PySem.W.findIn K (.ref CR) "things" = some none)
    (nH_totals : PySem.W.findIn K (.ref CH) "totals" = some none)
    (nH_batches : PySem.W.findIn K (.ref CH) "batches" = some none)
    (nH_many_waited : PySem.W.findIn K (.ref CH) "many_waited" = some none)
    (nD_house : PySem.W.findIn K (.ref CD) "house" = some none)
    (nO_batches : PySem.W.findIn K (.ref CO) "batches" = some none)
    (nO_free_first : PySem.W.findIn K (.ref CO) "free_first" = some none)
    (nO_known : PySem.W.findIn K (.ref CO) "known" = some none)
    (b_all : PySem.W.nsIn K mainGlobals "all" = some none)
    (b_any : PySem.W.nsIn K mainGlobals "any" = some none)
    (b_dict : PySem.W.nsIn K mainGlobals "dict" = some none)
    (b_enumerate : PySem.W.nsIn K mainGlobals "enumerate" = some none)
    (b_int : PySem.W.nsIn K mainGlobals "int" = some none)
    (b_len : PySem.W.nsIn K mainGlobals "len" = some none)
    (b_list : PySem.W.nsIn K mainGlobals "list" = some none)
    (b_min : PySem.W.nsIn K mainGlobals "min" = some none)
    (b_range : PySem.W.nsIn K mainGlobals "range" = some none)
    (b_reversed : PySem.W.nsIn K mainGlobals "reversed" = some none)
    (b_set : PySem.W.nsIn K mainGlobals "set" = some none)
    (b_sorted : PySem.W.nsIn K mainGlobals "sorted" = some none)
    (b_sum : PySem.W.nsIn K mainGlobals "sum" = some none)
    (b_tuple : PySem.W.nsIn K mainGlobals "tuple" = some none)
    (b_zip : PySem.W.nsIn K mainGlobals "zip" = some none)
    (q_BAD_ROW : PySem.W.nsIn K mainGlobals "BAD_ROW" = some (some (.int (-2) k_BAD_ROW)))
    (q_FULL : PySem.W.nsIn K mainGlobals "FULL" = some (some (.int (-6) k_FULL)))
    (q_MOST_ALTERNATIVES : PySem.W.nsIn K mainGlobals "MOST_ALTERNATIVES" = some (some (.int (4) k_MOST_ALTERNATIVES)))
    (q_MOST_BATCHES : PySem.W.nsIn K mainGlobals "MOST_BATCHES" = some (some (.int (10) k_MOST_BATCHES)))
    (q_MOST_KINDS : PySem.W.nsIn K mainGlobals "MOST_KINDS" = some (some (.int (6) k_MOST_KINDS)))
    (q_MOST_MORE : PySem.W.nsIn K mainGlobals "MOST_MORE" = some (some (.int (10000000000) k_MOST_MORE)))
    (q_MOST_NUMBER : PySem.W.nsIn K mainGlobals "MOST_NUMBER" = some (some (.int (1000000000) k_MOST_NUMBER)))
    (q_NONE_SUCH : PySem.W.nsIn K mainGlobals "NONE_SUCH" = some (some (.int (-10) k_NONE_SUCH)))
    (q_NOT_FREE : PySem.W.nsIn K mainGlobals "NOT_FREE" = some (some (.int (-5) k_NOT_FREE)))
    (q_NOT_SAFE : PySem.W.nsIn K mainGlobals "NOT_SAFE" = some (some (.int (-8) k_NOT_SAFE)))
    (q_NOT_SO_MUCH : PySem.W.nsIn K mainGlobals "NOT_SO_MUCH" = some (some (.int (-4) k_NOT_SO_MUCH)))
    (q_OUT_OF_RANGE : PySem.W.nsIn K mainGlobals "OUT_OF_RANGE" = some (some (.int (-1) k_OUT_OF_RANGE)))
    (q_THERE_ALREADY : PySem.W.nsIn K mainGlobals "THERE_ALREADY" = some (some (.int (-3) k_THERE_ALREADY)))
    (q_WAITING : PySem.W.nsIn K mainGlobals "WAITING" = some (some (.int (-7) k_WAITING)))
    (q_WITH_ID : PySem.W.nsIn K mainGlobals "WITH_ID" = some (some (.ref tW)))
    (tuW : K.lookup tW = some ⟨.type "tuple", dW, .seq #[.int 1 kW_1, .int 2 kW_2, .int 3 kW_3, .int 4 kW_4, .int 5 kW_5, .int 6 kW_6, .int 11 kW_11, .int 12 kW_12] nW, sW⟩)
    (q_OF_BATCH : PySem.W.nsIn K mainGlobals "OF_BATCH" = some (some (.ref tV)))
    (tuV : K.lookup tV = some ⟨.type "tuple", dV, .seq #[.int 2 kV_2, .int 3 kV_3, .int 4 kV_4, .int 5 kV_5, .int 6 kV_6, .int 11 kV_11, .int 12 kV_12] nV, sV⟩)
    (xL : K.lookup CX = some (excClassObj nm q CX N bs [.type "Exception", .type "BaseException", .type "object"] true sn sub ab col dd m0 m1 m2 m3 m5 "Exception.__new__"))
    (xsa : PySem.W.findIn K (.ref CX) "__setattr__" = some (some (.builtin "object.__setattr__")))
    (xga : PySem.W.findIn K (.ref CX) "__getattribute__" = some (some (.builtin "BaseException.__getattribute__")))
    (xgg : PySem.W.findIn K (.ref CX) "__getattr__" = some none)
    (xno : PySem.W.findIn K (.ref CX) "number" = some none)
    (xex : PySem.W.subIn K (.ref CX) (.type "BaseException") = some true)
    (xhd : PySem.W.hasDictIn K CX = true)
    (xty : PySem.W.typeIn K (.ref CX) = some (.type "type"))
    (xkc : PySem.W.keepIn K (.ref CX) = true)
    (xte : PySem.W.subIn K (.ref CX) (.ref CX) = some true)
    (xti : PySem.W.typeIn K (.ref f52) = some (.type "function"))
    (xve : PySem.W.findCls K (.type "Exception") (.type "type") "__init__" = some (.val (.builtin "Exception.__init__")))
    (xge : PySem.W.nsIn K mainGlobals "Exception" = some none) : ∃ A : Adr, TxD K mg A := by
  have cB : Cls K CB := ⟨pgB, hdB, poB, saB⟩
  have cR : Cls K CR := ⟨pgR, hdR, poR, saR⟩
  have cH : Cls K CH := ⟨pgH, hdH, poH, saH⟩
  have cD : Cls K CD := ⟨pgD, hdD, poD, saD⟩
  have cO : Cls K CO := ⟨pgO, hdO, poO, saO⟩
  exact ⟨⟨CB, CR, CH, CD, CO, CX, tW, tV, k_BAD_ROW, k_FULL, k_MOST_ALTERNATIVES, k_MOST_BATCHES, k_MOST_KINDS, k_MOST_MORE, k_MOST_NUMBER, k_NONE_SUCH, k_NOT_FREE, k_NOT_SAFE, k_NOT_SO_MUCH, k_OUT_OF_RANGE, k_THERE_ALREADY, k_WAITING⟩, {
    f_is_within := ⟨_, _, (fun_mk (st := s_is_within) l1 c1 k1), ((fun_mk (st := s_is_within) l1 c1 k1).binds (ps := ["one", "other"]) fun _ _ _ _ _ _ us hl => match us, hl with | [_, _], _ => rfl), PySem.W.mg_of X G a1⟩
    f_more := ⟨_, _, (fun_mk (st := s_more) l2 c2 k2), ((fun_mk (st := s_more) l2 c2 k2).binds (ps := ["one", "other"]) fun _ _ _ _ _ _ us hl => match us, hl with | [_, _], _ => rfl), PySem.W.mg_of X G a2⟩
    f_less := ⟨_, _, (fun_mk (st := s_less) l3 c3 k3), ((fun_mk (st := s_less) l3 c3 k3).binds (ps := ["one", "other"]) fun _ _ _ _ _ _ us hl => match us, hl with | [_, _], _ => rfl), PySem.W.mg_of X G a3⟩
    f_Request_init := ⟨_, _, (fun_mk (st := s_Request_init) l4 c4 k4), ((fun_mk (st := s_Request_init) l4 c4 k4).binds (ps := ["self", "number", "things"]) fun _ _ _ _ _ _ us hl => match us, hl with | [_, _, _], _ => rfl), ⟨mR, a4, i4, pR⟩, PySem.W.mg_of X G gR⟩
    f_Batch_init := ⟨_, _, (fun_mk (st := s_Batch_init) l5 c5 k5), ((fun_mk (st := s_Batch_init) l5 c5 k5).binds (ps := ["self", "number", "alternatives", "held", "request"]) fun _ _ _ _ _ _ us hl => match us, hl with | [_, _, _, _, _], _ => rfl), ⟨mB, a5, i5, pB⟩, PySem.W.mg_of X G gB⟩
    f_Batch_may_hold := ⟨_, _, (fun_mk (st := s_Batch_may_hold) l6 c6 k6), ((fun_mk (st := s_Batch_may_hold) l6 c6 k6).binds (ps := ["self", "things"]) fun _ _ _ _ _ _ us hl => match us, hl with | [_, _], _ => rfl), cB, ⟨a6, i6, k6⟩⟩
    f_Batch_may_get := ⟨_, _, (fun_mk (st := s_Batch_may_get) l7 c7 k7), ((fun_mk (st := s_Batch_may_get) l7 c7 k7).binds (ps := ["self", "things"]) fun _ _ _ _ _ _ us hl => match us, hl with | [_, _], _ => rfl), cB, ⟨a7, i7, k7⟩⟩
    f_Batch_can_end := ⟨_, _, (fun_mk (st := s_Batch_can_end) l8 c8 k8), ((fun_mk (st := s_Batch_can_end) l8 c8 k8).binds (ps := ["self", "free"]) fun _ _ _ _ _ _ us hl => match us, hl with | [_, _], _ => rfl), cB, ⟨a8, i8, k8⟩⟩
    f_Batch_can_go_on := ⟨_, _, (fun_mk (st := s_Batch_can_go_on) l9 c9 k9), ((fun_mk (st := s_Batch_can_go_on) l9 c9 k9).binds (ps := ["self", "free"]) fun _ _ _ _ _ _ us hl => match us, hl with | [_, _], _ => rfl), cB, ⟨a9, i9, k9⟩⟩
    f_Batch_holding := ⟨_, _, (fun_mk (st := s_Batch_holding) l10 c10 k10), ((fun_mk (st := s_Batch_holding) l10 c10 k10).binds (ps := ["self", "held"]) fun _ _ _ _ _ _ us hl => match us, hl with | [_, _], _ => rfl), cB, ⟨a10, i10, k10⟩⟩
    f_Batch_waiting := ⟨_, _, (fun_mk (st := s_Batch_waiting) l11 c11 k11), ((fun_mk (st := s_Batch_waiting) l11 c11 k11).binds (ps := ["self", "request"]) fun _ _ _ _ _ _ us hl => match us, hl with | [_, _], _ => rfl), cB, ⟨a11, i11, k11⟩⟩
    f_numbers_of := ⟨_, _, (fun_mk (st := s_numbers_of) l12 c12 k12), ((fun_mk (st := s_numbers_of) l12 c12 k12).binds (ps := ["batches"]) fun _ _ _ _ _ _ us hl => match us, hl with | [_], _ => rfl), PySem.W.mg_of X G a12⟩
    f_given_back := ⟨_, _, (fun_mk (st := s_given_back) l13 c13 k13), ((fun_mk (st := s_given_back) l13 c13 k13).binds (ps := ["free", "batches"]) fun _ _ _ _ _ _ us hl => match us, hl with | [_, _], _ => rfl), PySem.W.mg_of X G a13⟩
    f_first_that_ends := ⟨_, _, (fun_mk (st := s_first_that_ends) l14 c14 k14), ((fun_mk (st := s_first_that_ends) l14 c14 k14).binds (ps := ["batches", "free"]) fun _ _ _ _ _ _ us hl => match us, hl with | [_, _], _ => rfl), PySem.W.mg_of X G a14⟩
    f_without := ⟨_, _, (fun_mk (st := s_without) l15 c15 k15), ((fun_mk (st := s_without) l15 c15 k15).binds (ps := ["batches", "gone"]) fun _ _ _ _ _ _ us hl => match us, hl with | [_, _], _ => rfl), PySem.W.mg_of X G a15⟩
    f_ended := ⟨_, _, (fun_mk (st := s_ended) l16 c16 k16), ((fun_mk (st := s_ended) l16 c16 k16).binds (ps := ["batches", "free"]) fun _ _ _ _ _ _ us hl => match us, hl with | [_, _], _ => rfl), PySem.W.mg_of X G a16⟩
    f_is_safe := ⟨_, _, (fun_mk (st := s_is_safe) l17 c17 k17), ((fun_mk (st := s_is_safe) l17 c17 k17).binds (ps := ["batches", "free"]) fun _ _ _ _ _ _ us hl => match us, hl with | [_, _], _ => rfl), PySem.W.mg_of X G a17⟩
    f_locked := ⟨_, _, (fun_mk (st := s_locked) l18 c18 k18), ((fun_mk (st := s_locked) l18 c18 k18).binds (ps := ["batches", "free"]) fun _ _ _ _ _ _ us hl => match us, hl with | [_, _], _ => rfl), PySem.W.mg_of X G a18⟩
    f_Orders_init := ⟨_, _, (fun_mk (st := s_Orders_init) l19 c19 k19), ((fun_mk (st := s_Orders_init) l19 c19 k19).binds (ps := ["self", "batches", "free"]) fun _ _ _ _ _ _ us hl => match us, hl with | [_, _, _], _ => rfl), ⟨mO, a19, i19, pO⟩, PySem.W.mg_of X G gO⟩
    f_Orders_free_then := ⟨_, _, (fun_mk (st := s_Orders_free_then) l20 c20 k20), ((fun_mk (st := s_Orders_free_then) l20 c20 k20).binds (ps := ["self", "left"]) fun _ _ _ _ _ _ us hl => match us, hl with | [_, _], _ => rfl), cO, ⟨a20, i20, k20⟩⟩
    f_Orders_next_ones := ⟨_, _, (fun_mk (st := s_Orders_next_ones) l21 c21 k21), ((fun_mk (st := s_Orders_next_ones) l21 c21 k21).binds (ps := ["self", "left"]) fun _ _ _ _ _ _ us hl => match us, hl with | [_, _], _ => rfl), cO, ⟨a21, i21, k21⟩⟩
    f_Orders_many := ⟨_, _, (fun_mk (st := s_Orders_many) l22 c22 k22), ((fun_mk (st := s_Orders_many) l22 c22 k22).binds (ps := ["self", "left"]) fun _ _ _ _ _ _ us hl => match us, hl with | [_, _], _ => rfl), cO, ⟨a22, i22, k22⟩⟩
    f_Orders_all_places := ⟨_, _, (fun_mk (st := s_Orders_all_places) l23 c23 k23), ((fun_mk (st := s_Orders_all_places) l23 c23 k23).binds (ps := ["self"]) fun _ _ _ _ _ _ us hl => match us, hl with | [_], _ => rfl), cO, ⟨a23, i23, k23⟩⟩
    f_Orders_next_place := ⟨_, _, (fun_mk (st := s_Orders_next_place) l24 c24 k24), ((fun_mk (st := s_Orders_next_place) l24 c24 k24).binds (ps := ["self", "left", "number"]) fun _ _ _ _ _ _ us hl => match us, hl with | [_, _, _], _ => rfl), cO, ⟨a24, i24, k24⟩⟩
    f_Orders_order := ⟨_, _, (fun_mk (st := s_Orders_order) l25 c25 k25), ((fun_mk (st := s_Orders_order) l25 c25 k25).binds (ps := ["self", "number"]) fun _ _ _ _ _ _ us hl => match us, hl with | [_, _], _ => rfl), cO, ⟨a25, i25, k25⟩⟩
    f_less_one := ⟨_, _, (fun_mk (st := s_less_one) l26 c26 k26), ((fun_mk (st := s_less_one) l26 c26 k26).binds (ps := ["left", "gone"]) fun _ _ _ _ _ _ us hl => match us, hl with | [_, _], _ => rfl), PySem.W.mg_of X G a26⟩
    f_all_choices := ⟨_, _, (fun_mk (st := s_all_choices) l27 c27 k27), ((fun_mk (st := s_all_choices) l27 c27 k27).binds (ps := ["things"]) fun _ _ _ _ _ _ us hl => match us, hl with | [_], _ => rfl), PySem.W.mg_of X G a27⟩
    f_House_init := ⟨_, _, (fun_mk (st := s_House_init) l28 c28 k28), ((fun_mk (st := s_House_init) l28 c28 k28).binds (ps := ["self", "totals"]) fun _ _ _ _ _ _ us hl => match us, hl with | [_, _], _ => rfl), ⟨mH, a28, i28, pH⟩, PySem.W.mg_of X G gH⟩
    f_House_free := ⟨_, _, (fun_mk (st := s_House_free) l29 c29 k29), ((fun_mk (st := s_House_free) l29 c29 k29).binds (ps := ["self"]) fun _ _ _ _ _ _ us hl => match us, hl with | [_], _ => rfl), cH, ⟨a29, i29, k29⟩⟩
    f_House_find := ⟨_, _, (fun_mk (st := s_House_find) l30 c30 k30), ((fun_mk (st := s_House_find) l30 c30 k30).binds (ps := ["self", "number"]) fun _ _ _ _ _ _ us hl => match us, hl with | [_, _], _ => rfl), cH, ⟨a30, i30, k30⟩⟩
    f_House_with_batch := ⟨_, _, (fun_mk (st := s_House_with_batch) l31 c31 k31), ((fun_mk (st := s_House_with_batch) l31 c31 k31).binds (ps := ["self", "changed"]) fun _ _ _ _ _ _ us hl => match us, hl with | [_, _], _ => rfl), cH, ⟨a31, i31, k31⟩⟩
    f_House_with_more := ⟨_, _, (fun_mk (st := s_House_with_more) l32 c32 k32), ((fun_mk (st := s_House_with_more) l32 c32 k32).binds (ps := ["self", "batch", "things"]) fun _ _ _ _ _ _ us hl => match us, hl with | [_, _, _], _ => rfl), cH, ⟨a32, i32, k32⟩⟩
    f_House_stuck_with := ⟨_, _, (fun_mk (st := s_House_stuck_with) l33 c33 k33), ((fun_mk (st := s_House_stuck_with) l33 c33 k33).binds (ps := ["self", "batch", "things"]) fun _ _ _ _ _ _ us hl => match us, hl with | [_, _, _], _ => rfl), cH, ⟨a33, i33, k33⟩⟩
    f_House_can_grant := ⟨_, _, (fun_mk (st := s_House_can_grant) l34 c34 k34), ((fun_mk (st := s_House_can_grant) l34 c34 k34).binds (ps := ["self", "batch", "things"]) fun _ _ _ _ _ _ us hl => match us, hl with | [_, _, _], _ => rfl), cH, ⟨a34, i34, k34⟩⟩
    f_House_is_safe := ⟨_, _, (fun_mk (st := s_House_is_safe) l35 c35 k35), ((fun_mk (st := s_House_is_safe) l35 c35 k35).binds (ps := ["self"]) fun _ _ _ _ _ _ us hl => match us, hl with | [_], _ => rfl), cH, ⟨a35, i35, k35⟩⟩
    f_House_ask := ⟨_, _, (fun_mk (st := s_House_ask) l36 c36 k36), ((fun_mk (st := s_House_ask) l36 c36 k36).binds (ps := ["self", "batch", "things"]) fun _ _ _ _ _ _ us hl => match us, hl with | [_, _, _], _ => rfl), cH, ⟨a36, i36, k36⟩⟩
    f_House_waiting := ⟨_, _, (fun_mk (st := s_House_waiting) l37 c37 k37), ((fun_mk (st := s_House_waiting) l37 c37 k37).binds (ps := ["self"]) fun _ _ _ _ _ _ us hl => match us, hl with | [_], _ => rfl), cH, ⟨a37, i37, k37⟩⟩
    f_House_look_again := ⟨_, _, (fun_mk (st := s_House_look_again) l38 c38 k38), ((fun_mk (st := s_House_look_again) l38 c38 k38).binds (ps := ["self"]) fun _ _ _ _ _ _ us hl => match us, hl with | [_], _ => rfl), cH, ⟨a38, i38, k38⟩⟩
    f_House_room := ⟨_, _, (fun_mk (st := s_House_room) l39 c39 k39), ((fun_mk (st := s_House_room) l39 c39 k39).binds (ps := ["self", "batch", "j"]) fun _ _ _ _ _ _ us hl => match us, hl with | [_, _, _], _ => rfl), cH, ⟨a39, i39, k39⟩⟩
    f_House_copies := ⟨_, _, (fun_mk (st := s_House_copies) l40 c40 k40), ((fun_mk (st := s_House_copies) l40 c40 k40).binds (ps := ["self", "j", "many"]) fun _ _ _ _ _ _ us hl => match us, hl with | [_, _, _], _ => rfl), cH, ⟨a40, i40, k40⟩⟩
    f_House_is_safe_with := ⟨_, _, (fun_mk (st := s_House_is_safe_with) l41 c41 k41), ((fun_mk (st := s_House_is_safe_with) l41 c41 k41).binds (ps := ["self", "j", "many"]) fun _ _ _ _ _ _ us hl => match us, hl with | [_, _, _], _ => rfl), cH, ⟨a41, i41, k41⟩⟩
    f_House_lack := ⟨_, _, (fun_mk (st := s_House_lack) l42 c42 k42), ((fun_mk (st := s_House_lack) l42 c42 k42).binds (ps := ["self", "j"]) fun _ _ _ _ _ _ us hl => match us, hl with | [_, _], _ => rfl), cH, ⟨a42, i42, k42⟩⟩
    f_House_is_safe_without := ⟨_, _, (fun_mk (st := s_House_is_safe_without) l43 c43 k43), ((fun_mk (st := s_House_is_safe_without) l43 c43 k43).binds (ps := ["self", "gone"]) fun _ _ _ _ _ _ us hl => match us, hl with | [_, _], _ => rfl), cH, ⟨a43, i43, k43⟩⟩
    f_House_all_victims := ⟨_, _, (fun_mk (st := s_House_all_victims) l44 c44 k44), ((fun_mk (st := s_House_all_victims) l44 c44 k44).binds (ps := ["self"]) fun _ _ _ _ _ _ us hl => match us, hl with | [_], _ => rfl), cH, ⟨a44, i44, k44⟩⟩
    f_House_cheapest := ⟨_, _, (fun_mk (st := s_House_cheapest) l45 c45 k45), ((fun_mk (st := s_House_cheapest) l45 c45 k45).binds (ps := ["self", "costs"]) fun _ _ _ _ _ _ us hl => match us, hl with | [_, _], _ => rfl), cH, ⟨a45, i45, k45⟩⟩
    f_House_all_orders := ⟨_, _, (fun_mk (st := s_House_all_orders) l46 c46 k46), ((fun_mk (st := s_House_all_orders) l46 c46 k46).binds (ps := ["self"]) fun _ _ _ _ _ _ us hl => match us, hl with | [_], _ => rfl), cH, ⟨a46, i46, k46⟩⟩
    f_House_first_that_cannot := ⟨_, _, (fun_mk (st := s_House_first_that_cannot) l47 c47 k47), ((fun_mk (st := s_House_first_that_cannot) l47 c47 k47).binds (ps := ["self", "numbers"]) fun _ _ _ _ _ _ us hl => match us, hl with | [_, _], _ => rfl), cH, ⟨a47, i47, k47⟩⟩
    f_House_do_block := ⟨_, _, (fun_mk (st := s_House_do_block) l48 c48 k48), ((fun_mk (st := s_House_do_block) l48 c48 k48).binds (ps := ["self", "numbers"]) fun _ _ _ _ _ _ us hl => match us, hl with | [_, _], _ => rfl), cH, ⟨a48, i48, k48⟩⟩
    f_House_locked := ⟨_, _, (fun_mk (st := s_House_locked) l49 c49 k49), ((fun_mk (st := s_House_locked) l49 c49 k49).binds (ps := ["self"]) fun _ _ _ _ _ _ us hl => match us, hl with | [_], _ => rfl), cH, ⟨a49, i49, k49⟩⟩
    f_House_add := ⟨_, _, (fun_mk (st := s_House_add) l50 c50 k50), ((fun_mk (st := s_House_add) l50 c50 k50).binds (ps := ["self", "number", "alternatives"]) fun _ _ _ _ _ _ us hl => match us, hl with | [_, _, _], _ => rfl), cH, ⟨a50, i50, k50⟩⟩
    f_House_remove := ⟨_, _, (fun_mk (st := s_House_remove) l51 c51 k51), ((fun_mk (st := s_House_remove) l51 c51 k51).binds (ps := ["self", "number"]) fun _ _ _ _ _ _ us hl => match us, hl with | [_, _], _ => rfl), cH, ⟨a51, i51, k51⟩⟩
    f_want := ⟨_, _, (fun_mk (st := s_want) l53 c53 k53), ((fun_mk (st := s_want) l53 c53 k53).binds (ps := ["truth", "number"]) fun _ _ _ _ _ _ us hl => match us, hl with | [_, _], _ => rfl), PySem.W.mg_of X G a53⟩
    f_listed := ⟨_, _, (fun_mk (st := s_listed) l54 c54 k54), ((fun_mk (st := s_listed) l54 c54 k54).binds (ps := ["numbers"]) fun _ _ _ _ _ _ us hl => match us, hl with | [_], _ => rfl), PySem.W.mg_of X G a54⟩
    f_are_numbers := ⟨_, _, (fun_mk (st := s_are_numbers) l55 c55 k55), ((fun_mk (st := s_are_numbers) l55 c55 k55).binds (ps := ["row"]) fun _ _ _ _ _ _ us hl => match us, hl with | [_], _ => rfl), PySem.W.mg_of X G a55⟩
    f_Desk_init := ⟨_, _, (fun_mk (st := s_Desk_init) l56 c56 k56), ((fun_mk (st := s_Desk_init) l56 c56 k56).binds (ps := ["self"]) fun _ _ _ _ _ _ us hl => match us, hl with | [_], _ => rfl), ⟨mD, a56, i56, pD⟩, PySem.W.mg_of X G gD⟩
    f_Desk_want_list := ⟨_, _, (fun_mk (st := s_Desk_want_list) l57 c57 k57), ((fun_mk (st := s_Desk_want_list) l57 c57 k57).binds (ps := ["self", "row"]) fun _ _ _ _ _ _ us hl => match us, hl with | [_, _], _ => rfl), cD, ⟨a57, i57, k57⟩⟩
    f_Desk_batch_of := ⟨_, _, (fun_mk (st := s_Desk_batch_of) l58 c58 k58), ((fun_mk (st := s_Desk_batch_of) l58 c58 k58).binds (ps := ["self", "number"]) fun _ _ _ _ _ _ us hl => match us, hl with | [_, _], _ => rfl), cD, ⟨a58, i58, k58⟩⟩
    f_Desk_want_kind := ⟨_, _, (fun_mk (st := s_Desk_want_kind) l59 c59 k59), ((fun_mk (st := s_Desk_want_kind) l59 c59 k59).binds (ps := ["self", "j"]) fun _ _ _ _ _ _ us hl => match us, hl with | [_, _], _ => rfl), cD, ⟨a59, i59, k59⟩⟩
    f_Desk_begin := ⟨_, _, (fun_mk (st := s_Desk_begin) l60 c60 k60), ((fun_mk (st := s_Desk_begin) l60 c60 k60).binds (ps := ["self", "row"]) fun _ _ _ _ _ _ us hl => match us, hl with | [_, _], _ => rfl), cD, ⟨a60, i60, k60⟩⟩
    f_Desk_add_batch := ⟨_, _, (fun_mk (st := s_Desk_add_batch) l61 c61 k61), ((fun_mk (st := s_Desk_add_batch) l61 c61 k61).binds (ps := ["self", "number", "rows"]) fun _ _ _ _ _ _ us hl => match us, hl with | [_, _, _], _ => rfl), cD, ⟨a61, i61, k61⟩⟩
    f_Desk_ask := ⟨_, _, (fun_mk (st := s_Desk_ask) l62 c62 k62), ((fun_mk (st := s_Desk_ask) l62 c62 k62).binds (ps := ["self", "batch", "row"]) fun _ _ _ _ _ _ us hl => match us, hl with | [_, _, _], _ => rfl), cD, ⟨a62, i62, k62⟩⟩
    f_Desk_give := ⟨_, _, (fun_mk (st := s_Desk_give) l63 c63 k63), ((fun_mk (st := s_Desk_give) l63 c63 k63).binds (ps := ["self", "batch", "row"]) fun _ _ _ _ _ _ us hl => match us, hl with | [_, _, _], _ => rfl), cD, ⟨a63, i63, k63⟩⟩
    f_Desk_looked_again := ⟨_, _, (fun_mk (st := s_Desk_looked_again) l64 c64 k64), ((fun_mk (st := s_Desk_looked_again) l64 c64 k64).binds (ps := ["self"]) fun _ _ _ _ _ _ us hl => match us, hl with | [_], _ => rfl), cD, ⟨a64, i64, k64⟩⟩
    f_Desk_back := ⟨_, _, (fun_mk (st := s_Desk_back) l65 c65 k65), ((fun_mk (st := s_Desk_back) l65 c65 k65).binds (ps := ["self", "batch", "row"]) fun _ _ _ _ _ _ us hl => match us, hl with | [_, _, _], _ => rfl), cD, ⟨a65, i65, k65⟩⟩
    f_Desk_end := ⟨_, _, (fun_mk (st := s_Desk_end) l66 c66 k66), ((fun_mk (st := s_Desk_end) l66 c66 k66).binds (ps := ["self", "batch"]) fun _ _ _ _ _ _ us hl => match us, hl with | [_, _], _ => rfl), cD, ⟨a66, i66, k66⟩⟩
    f_Desk_drop := ⟨_, _, (fun_mk (st := s_Desk_drop) l67 c67 k67), ((fun_mk (st := s_Desk_drop) l67 c67 k67).binds (ps := ["self", "batch"]) fun _ _ _ _ _ _ us hl => match us, hl with | [_, _], _ => rfl), cD, ⟨a67, i67, k67⟩⟩
    f_Desk_add_copies := ⟨_, _, (fun_mk (st := s_Desk_add_copies) l68 c68 k68), ((fun_mk (st := s_Desk_add_copies) l68 c68 k68).binds (ps := ["self", "j", "many"]) fun _ _ _ _ _ _ us hl => match us, hl with | [_, _, _], _ => rfl), cD, ⟨a68, i68, k68⟩⟩
    f_Desk_safe := ⟨_, _, (fun_mk (st := s_Desk_safe) l69 c69 k69), ((fun_mk (st := s_Desk_safe) l69 c69 k69).binds (ps := ["self"]) fun _ _ _ _ _ _ us hl => match us, hl with | [_], _ => rfl), cD, ⟨a69, i69, k69⟩⟩
    f_Desk_could := ⟨_, _, (fun_mk (st := s_Desk_could) l70 c70 k70), ((fun_mk (st := s_Desk_could) l70 c70 k70).binds (ps := ["self", "batch", "row"]) fun _ _ _ _ _ _ us hl => match us, hl with | [_, _, _], _ => rfl), cD, ⟨a70, i70, k70⟩⟩
    f_Desk_room := ⟨_, _, (fun_mk (st := s_Desk_room) l71 c71 k71), ((fun_mk (st := s_Desk_room) l71 c71 k71).binds (ps := ["self", "batch", "j"]) fun _ _ _ _ _ _ us hl => match us, hl with | [_, _, _], _ => rfl), cD, ⟨a71, i71, k71⟩⟩
    f_Desk_lack := ⟨_, _, (fun_mk (st := s_Desk_lack) l72 c72 k72), ((fun_mk (st := s_Desk_lack) l72 c72 k72).binds (ps := ["self", "j"]) fun _ _ _ _ _ _ us hl => match us, hl with | [_, _], _ => rfl), cD, ⟨a72, i72, k72⟩⟩
    f_Desk_want_batches := ⟨_, _, (fun_mk (st := s_Desk_want_batches) l73 c73 k73), ((fun_mk (st := s_Desk_want_batches) l73 c73 k73).binds (ps := ["self", "row"]) fun _ _ _ _ _ _ us hl => match us, hl with | [_, _], _ => rfl), cD, ⟨a73, i73, k73⟩⟩
    f_Desk_cheapest := ⟨_, _, (fun_mk (st := s_Desk_cheapest) l74 c74 k74), ((fun_mk (st := s_Desk_cheapest) l74 c74 k74).binds (ps := ["self", "row"]) fun _ _ _ _ _ _ us hl => match us, hl with | [_, _], _ => rfl), cD, ⟨a74, i74, k74⟩⟩
    f_Desk_many_orders := ⟨_, _, (fun_mk (st := s_Desk_many_orders) l75 c75 k75), ((fun_mk (st := s_Desk_many_orders) l75 c75 k75).binds (ps := ["self"]) fun _ _ _ _ _ _ us hl => match us, hl with | [_], _ => rfl), cD, ⟨a75, i75, k75⟩⟩
    f_Desk_order := ⟨_, _, (fun_mk (st := s_Desk_order) l76 c76 k76), ((fun_mk (st := s_Desk_order) l76 c76 k76).binds (ps := ["self", "k"]) fun _ _ _ _ _ _ us hl => match us, hl with | [_, _], _ => rfl), cD, ⟨a76, i76, k76⟩⟩
    f_Desk_check := ⟨_, _, (fun_mk (st := s_Desk_check) l77 c77 k77), ((fun_mk (st := s_Desk_check) l77 c77 k77).binds (ps := ["self", "row"]) fun _ _ _ _ _ _ us hl => match us, hl with | [_, _], _ => rfl), cD, ⟨a77, i77, k77⟩⟩
    f_Desk_blocks := ⟨_, _, (fun_mk (st := s_Desk_blocks) l78 c78 k78), ((fun_mk (st := s_Desk_blocks) l78 c78 k78).binds (ps := ["self", "row"]) fun _ _ _ _ _ _ us hl => match us, hl with | [_, _], _ => rfl), cD, ⟨a78, i78, k78⟩⟩
    f_Desk_told_of := ⟨_, _, (fun_mk (st := s_Desk_told_of) l79 c79 k79), ((fun_mk (st := s_Desk_told_of) l79 c79 k79).binds (ps := ["self", "batch"]) fun _ _ _ _ _ _ us hl => match us, hl with | [_, _], _ => rfl), cD, ⟨a79, i79, k79⟩⟩
    f_Desk_all_told := ⟨_, _, (fun_mk (st := s_Desk_all_told) l80 c80 k80), ((fun_mk (st := s_Desk_all_told) l80 c80 k80).binds (ps := ["self"]) fun _ _ _ _ _ _ us hl => match us, hl with | [_], _ => rfl), cD, ⟨a80, i80, k80⟩⟩
    f_Desk_of_batch := ⟨_, _, (fun_mk (st := s_Desk_of_batch) l81 c81 k81), ((fun_mk (st := s_Desk_of_batch) l81 c81 k81).binds (ps := ["self", "word", "batch", "numbers", "rows"]) fun _ _ _ _ _ _ us hl => match us, hl with | [_, _, _, _, _], _ => rfl), cD, ⟨a81, i81, k81⟩⟩
    f_Desk_of_row := ⟨_, _, (fun_mk (st := s_Desk_of_row) l82 c82 k82), ((fun_mk (st := s_Desk_of_row) l82 c82 k82).binds (ps := ["self", "word", "numbers", "rows"]) fun _ _ _ _ _ _ us hl => match us, hl with | [_, _, _, _], _ => rfl), cD, ⟨a82, i82, k82⟩⟩
    f_Desk_asked := ⟨_, _, (fun_mk (st := s_Desk_asked) l83 c83 k83), ((fun_mk (st := s_Desk_asked) l83 c83 k83).binds (ps := ["self", "word", "numbers"]) fun _ _ _ _ _ _ us hl => match us, hl with | [_, _, _], _ => rfl), cD, ⟨a83, i83, k83⟩⟩
    f_Desk_done := ⟨_, _, (fun_mk (st := s_Desk_done) l84 c84 k84), ((fun_mk (st := s_Desk_done) l84 c84 k84).binds (ps := ["self", "word", "numbers", "rows"]) fun _ _ _ _ _ _ us hl => match us, hl with | [_, _, _, _], _ => rfl), cD, ⟨a84, i84, k84⟩⟩
    f_Desk_answer := ⟨_, _, (fun_mk (st := s_Desk_answer) l85 c85 k85), ((fun_mk (st := s_Desk_answer) l85 c85 k85).binds (ps := ["self", "word", "numbers", "rows"]) fun _ _ _ _ _ _ us hl => match us, hl with | [_, _, _, _], _ => rfl), cD, ⟨a85, i85, k85⟩⟩
    f_rows_at := ⟨_, _, (fun_mk (st := s_rows_at) l86 c86 k86), ((fun_mk (st := s_rows_at) l86 c86 k86).binds (ps := ["calls", "at"]) fun _ _ _ _ _ _ us hl => match us, hl with | [_, _], _ => rfl), PySem.W.mg_of X G a86⟩
    f_answers := ⟨_, _, (fun_mk (st := s_answers) l87 c87 k87), ((fun_mk (st := s_answers) l87 c87 k87).binds (ps := ["calls"]) fun _ _ _ _ _ _ us hl => match us, hl with | [_], _ => rfl), PySem.W.mg_of X G a87⟩
    f_is_safe_ends := ⟨_, _, (fun_mk (st := s_is_safe) l17 c17 k17), ((fun_mk (st := s_is_safe) l17 c17 k17).binds (ps := ["batches", "free"]) fun _ _ _ _ _ _ us hl => match us, hl with | [_, _], _ => rfl), PySem.W.mg_of X G al_is_safe_ends⟩
    f_locked_ends := ⟨_, _, (fun_mk (st := s_locked) l18 c18 k18), ((fun_mk (st := s_locked) l18 c18 k18).binds (ps := ["batches", "free"]) fun _ _ _ _ _ _ us hl => match us, hl with | [_, _], _ => rfl), PySem.W.mg_of X G al_locked_ends⟩
    c_B := cB
    c_R := cR
    c_H := cH
    c_D := cD
    c_O := cO
    n_B_number := nB_number
    n_B_alternatives := nB_alternatives
    n_B_held := nB_held
    n_B_request := nB_request
    n_R_number := nR_number
    n_R_things := nR_things
    n_H_totals := nH_totals
    n_H_batches := nH_batches
    n_H_many_waited := nH_many_waited
    n_D_house := nD_house
    n_O_batches := nO_batches
    n_O_free_first := nO_free_first
    n_O_known := nO_known
    b_all := PySem.W.mg_none_of X G b_all
    b_any := PySem.W.mg_none_of X G b_any
    b_dict := PySem.W.mg_none_of X G b_dict
    b_enumerate := PySem.W.mg_none_of X G b_enumerate
    b_int := PySem.W.mg_none_of X G b_int
    b_len := PySem.W.mg_none_of X G b_len
    b_list := PySem.W.mg_none_of X G b_list
    b_min := PySem.W.mg_none_of X G b_min
    b_range := PySem.W.mg_none_of X G b_range
    b_reversed := PySem.W.mg_none_of X G b_reversed
    b_set := PySem.W.mg_none_of X G b_set
    b_sorted := PySem.W.mg_none_of X G b_sorted
    b_sum := PySem.W.mg_none_of X G b_sum
    b_tuple := PySem.W.mg_none_of X G b_tuple
    b_zip := PySem.W.mg_none_of X G b_zip
    c_BAD_ROW := PySem.W.mg_of X G q_BAD_ROW
    c_FULL := PySem.W.mg_of X G q_FULL
    c_MOST_ALTERNATIVES := PySem.W.mg_of X G q_MOST_ALTERNATIVES
    c_MOST_BATCHES := PySem.W.mg_of X G q_MOST_BATCHES
    c_MOST_KINDS := PySem.W.mg_of X G q_MOST_KINDS
    c_MOST_MORE := PySem.W.mg_of X G q_MOST_MORE
    c_MOST_NUMBER := PySem.W.mg_of X G q_MOST_NUMBER
    c_NONE_SUCH := PySem.W.mg_of X G q_NONE_SUCH
    c_NOT_FREE := PySem.W.mg_of X G q_NOT_FREE
    c_NOT_SAFE := PySem.W.mg_of X G q_NOT_SAFE
    c_NOT_SO_MUCH := PySem.W.mg_of X G q_NOT_SO_MUCH
    c_OUT_OF_RANGE := PySem.W.mg_of X G q_OUT_OF_RANGE
    c_THERE_ALREADY := PySem.W.mg_of X G q_THERE_ALREADY
    c_WAITING := PySem.W.mg_of X G q_WAITING
    c_WITH_ID := PySem.W.mg_of X G q_WITH_ID
    t_WITH_ID := tupIn_ok (by unfold tupIn; rw [tuW]; rfl)
    c_OF_BATCH := PySem.W.mg_of X G q_OF_BATCH
    t_OF_BATCH := tupIn_ok (by unfold tupIn; rw [tuV]; rfl)
    ref := { gC := PySem.W.mg_of X G gX, cls := ⟨_, _, _, _, _, _, _, _, _, _, _, _, _, _, xL⟩, sa := xsa, xf := ⟨xga, xgg, xex, xhd⟩, noN := xno, tyC := xty, kC := xkc, te := PySem.W.exm_ref xex xhd xty xte, fn := ⟨_, _, (fun_mk (st := s_Refused_init) l52 c52 k52), ((fun_mk (st := s_Refused_init) l52 c52 k52).binds (ps := ["self", "number"]) fun _ _ _ _ _ _ us hl => match us, hl with | [_, _], _ => rfl), a52, xti⟩, vE := xve, gE := PySem.W.mg_none_of X G xge } }⟩

end G
end

set_option Elab.async false
set_option linter.all false
set_option maxRecDepth 100000
set_option maxHeartbeats 8000000
namespace G
open PySem PySem.Spec PyProof.Rows L2
/-- answers against the document -/
def sp_final (K : PySem.W.Frag) : Sp := fun vs H Q _ => ∃ (a : Addr) (ns : List Int), vs = [.ref a] ∧ SqL K H a (ns.map V.int) ∧ ns.length ≤ 17000 ∧ PyVbwbad.answers_asked ns = true ∧
  ∀ (H' : Hp) (p : Addr), H' p = some (.lst ((PyVbwbad.answers ns).map V.int)) → Q (.ref p) H'
theorem final_ok {P : Program} {w : World} {K : PySem.W.Frag} {mg : Str → Option Value} {fa : Addr} (T : ∃ A : Adr, TxD K mg A) (hfa : mg "answers" = some (.ref fa)) :
    ∃ fd : FuncData, (∀ (s : Shared) (us : List Value), us.length = (["calls"] : List Str).length → BindsTo s fd ⟨us, []⟩ ((["calls"] : List Str).zip us)) ∧ ∀ base : Heap, K.In base → base.Ns mainGlobals mg → FnOk P w K mg base CX0 23 fa fd ["calls"] (sp_final K) := by
  obtain ⟨A, T⟩ := T
  obtain ⟨f, fd, Fn, hb, hm⟩ := T.f_answers
  have e := hfa.symm.trans hm
  cases e
  obtain ⟨oc, od, kV, doc, pm, an, cdv, ct, osl, efd, _, _⟩ := Fn.ex
  refine ⟨fd, fun s us hu => ?_, fun base _ _ => (ok_answers T Fn).imp fun vs H Q E h => ?_⟩
  · subst efd
    exact match us, hu with | [_], _ => .of_eq rfl
  · obtain ⟨a, ns, rfl, hS, hl, hask, k⟩ := h
    obtain ⟨all, h1, h2, h3, h4⟩ := asked_ok hask
    refine ⟨a, ns, all, rfl, hS, hl, h1, h2, h3, fun H' p hp => k H' p ?_⟩
    rw [← h4]
    exact hp
theorem len_of {a : PySem.W.Codec.denoteAll PySem.Challenge.rw_safegrants_s01_answers.args} (h : PySem.W.Codec.withinAll PySem.Challenge.rw_safegrants_s01_answers.args a = true) : (a.1 : List Int).length ≤ 17000 := by
  obtain ⟨l, _⟩ := a
  have h1 := (Bool.and_eq_true _ _).mp h
  have h2 := (Bool.and_eq_true _ _).mp h1.1
  have h4 : (decide (0 ≤ (l : List Int).length) && decide ((l : List Int).length ≤ 17000)) = true := h2.1
  have h3 := of_decide_eq_true ((Bool.and_eq_true _ _).mp h4).2
  exact h3
end G
open PySem PySem.W PyProof.Rows
set_option maxHeartbeats 0 in
theorem PySem.Challenge.cw_safegrants_s01_answers_holds : PySem.Challenge.rw_safegrants_s01_answers.Holds := by
  w_on; k_headS; (case hw => exact ⟨[.list [.int 8, .int 0, .int 0]], by decide +kernel, by decide +kernel⟩)
  k_fillS
  refine L2.walk_specK (r := PySem.Challenge.rw_safegrants_s01_answers) (k := 23) (CX := L2.CX0) (ps := ["calls"]) (sp := G.sp_final) (by decide +kernel) rfl rfl ⟨rfl, by decide, by decide⟩ (fun w h Y => PySem.W.kIn_of Y) ?F ?S (fun _ _ _ _ z => z)
  case F =>
    intro w mg fa h Y KX KG hmg
    refine G.final_ok ?T hmg
    refine' G.all_txt KX KG ?gR ?gB ?gO ?gH ?gX ?gD ?a1 ?l1 ?c1 ?k1 ?a2 ?l2 ?c2 ?k2 ?a3 ?l3 ?c3 ?k3 ?a4 ?l4 ?c4 ?k4 ?i4 ?a5 ?l5 ?c5 ?k5 ?i5 ?a6 ?l6 ?c6 ?k6 ?i6 ?a7 ?l7 ?c7 ?k7 ?i7 ?a8 ?l8 ?c8 ?k8 ?i8 ?a9 ?l9 ?c9 ?k9 ?i9 ?a10 ?l10 ?c10 ?k10 ?i10 ?a11 ?l11 ?c11 ?k11 ?i11 ?a12 ?l12 ?c12 ?k12 ?a13 ?l13 ?c13 ?k13 ?a14 ?l14 ?c14 ?k14 ?a15 ?l15 ?c15 ?k15 ?a16 ?l16 ?c16 ?k16 ?a17 ?l17 ?c17 ?k17 ?a18 ?l18 ?c18 ?k18 ?a19 ?l19 ?c19 ?k19 ?i19 ?a20 ?l20 ?c20 ?k20 ?i20 ?a21 ?l21 ?c21 ?k21 ?i21 ?a22 ?l22 ?c22 ?k22 ?i22 ?a23 ?l23 ?c23 ?k23 ?i23 ?a24 ?l24 ?c24 ?k24 ?i24 ?a25 ?l25 ?c25 ?k25 ?i25 ?a26 ?l26 ?c26 ?k26 ?a27 ?l27 ?c27 ?k27 ?a28 ?l28 ?c28 ?k28 ?i28 ?a29 ?l29 ?c29 ?k29 ?i29 ?a30 ?l30 ?c30 ?k30 ?i30 ?a31 ?l31 ?c31 ?k31 ?i31 ?a32 ?l32 ?c32 ?k32 ?i32 ?a33 ?l33 ?c33 ?k33 ?i33 ?a34 ?l34 ?c34 ?k34 ?i34 ?a35 ?l35 ?c35 ?k35 ?i35 ?a36 ?l36 ?c36 ?k36 ?i36 ?a37 ?l37 ?c37 ?k37 ?i37 ?a38 ?l38 ?c38 ?k38 ?i38 ?a39 ?l39 ?c39 ?k39 ?i39 ?a40 ?l40 ?c40 ?k40 ?i40 ?a41 ?l41 ?c41 ?k41 ?i41 ?a42 ?l42 ?c42 ?k42 ?i42 ?a43 ?l43 ?c43 ?k43 ?i43 ?a44 ?l44 ?c44 ?k44 ?i44 ?a45 ?l45 ?c45 ?k45 ?i45 ?a46 ?l46 ?c46 ?k46 ?i46 ?a47 ?l47 ?c47 ?k47 ?i47 ?a48 ?l48 ?c48 ?k48 ?i48 ?a49 ?l49 ?c49 ?k49 ?i49 ?a50 ?l50 ?c50 ?k50 ?i50 ?a51 ?l51 ?c51 ?k51 ?i51 ?a52 ?l52 ?c52 ?k52 ?i52 ?a53 ?l53 ?c53 ?k53 ?a54 ?l54 ?c54 ?k54 ?a55 ?l55 ?c55 ?k55 ?a56 ?l56 ?c56 ?k56 ?i56 ?a57 ?l57 ?c57 ?k57 ?i57 ?a58 ?l58 ?c58 ?k58 ?i58 ?a59 ?l59 ?c59 ?k59 ?i59 ?a60 ?l60 ?c60 ?k60 ?i60 ?a61 ?l61 ?c61 ?k61 ?i61 ?a62 ?l62 ?c62 ?k62 ?i62 ?a63 ?l63 ?c63 ?k63 ?i63 ?a64 ?l64 ?c64 ?k64 ?i64 ?a65 ?l65 ?c65 ?k65 ?i65 ?a66 ?l66 ?c66 ?k66 ?i66 ?a67 ?l67 ?c67 ?k67 ?i67 ?a68 ?l68 ?c68 ?k68 ?i68 ?a69 ?l69 ?c69 ?k69 ?i69 ?a70 ?l70 ?c70 ?k70 ?i70 ?a71 ?l71 ?c71 ?k71 ?i71 ?a72 ?l72 ?c72 ?k72 ?i72 ?a73 ?l73 ?c73 ?k73 ?i73 ?a74 ?l74 ?c74 ?k74 ?i74 ?a75 ?l75 ?c75 ?k75 ?i75 ?a76 ?l76 ?c76 ?k76 ?i76 ?a77 ?l77 ?c77 ?k77 ?i77 ?a78 ?l78 ?c78 ?k78 ?i78 ?a79 ?l79 ?c79 ?k79 ?i79 ?a80 ?l80 ?c80 ?k80 ?i80 ?a81 ?l81 ?c81 ?k81 ?i81 ?a82 ?l82 ?c82 ?k82 ?i82 ?a83 ?l83 ?c83 ?k83 ?i83 ?a84 ?l84 ?c84 ?k84 ?i84 ?a85 ?l85 ?c85 ?k85 ?i85 ?a86 ?l86 ?c86 ?k86 ?a87 ?l87 ?c87 ?k87 ?al_is_safe_ends ?al_locked_ends ?pgB ?hdB ?poB ?saB ?mB ?pB ?pgR ?hdR ?poR ?saR ?mR ?pR ?pgH ?hdH ?poH ?saH ?mH ?pH ?pgD ?hdD ?poD ?saD ?mD ?pD ?pgO ?hdO ?poO ?saO ?mO ?pO ?nB_number ?nB_alternatives ?nB_held ?nB_request ?nR_number ?nR_things ?nH_totals ?nH_batches ?nH_many_waited ?nD_house ?nO_batches ?nO_free_first ?nO_known ?b_all ?b_any ?b_dict ?b_enumerate ?b_int ?b_len ?b_list ?b_min ?b_range ?b_reversed ?b_set ?b_sorted ?b_sum ?b_tuple ?b_zip ?q_BAD_ROW ?q_FULL ?q_MOST_ALTERNATIVES ?q_MOST_BATCHES ?q_MOST_KINDS ?q_MOST_MORE ?q_MOST_NUMBER ?q_NONE_SUCH ?q_NOT_FREE ?q_NOT_SAFE ?q_NOT_SO_MUCH ?q_OUT_OF_RANGE ?q_THERE_ALREADY ?q_WAITING ?q_WITH_ID ?tuW ?q_OF_BATCH ?tuV ?xL ?xsa ?xga ?xgg ?xno ?xex ?xhd ?xty ?xkc ?xte ?xti ?xve ?xge
    (case gR => k_is)
    (case gB => k_is)
    (case gO => k_is)
    (case gH => k_is)
    (case gX => k_is)
    (case gD => k_is)
    (case a1 => k_is)
    (case l1 => k_is)
    (case c1 => k_is)
    (case k1 => k_is)
    (case a2 => k_is)
    (case l2 => k_is)
    (case c2 => k_is)
    (case k2 => k_is)
    (case a3 => k_is)
    (case l3 => k_is)
    (case c3 => k_is)
    (case k3 => k_is)
    (case a4 => k_is)
    (case l4 => k_is)
    (case c4 => k_is)
    (case k4 => k_is)
    (case i4 => k_is)
    (case a5 => k_is)
    (case l5 => k_is)
    (case c5 => k_is)
    (case k5 => k_is)
    (case i5 => k_is)
    (case a6 => k_is)
    (case l6 => k_is)
    (case c6 => k_is)
    (case k6 => k_is)
    (case i6 => k_is)
    (case a7 => k_is)
    (case l7 => k_is)
    (case c7 => k_is)
    (case k7 => k_is)
    (case i7 => k_is)
    (case a8 => k_is)
    (case l8 => k_is)
    (case c8 => k_is)
    (case k8 => k_is)
    (case i8 => k_is)
    (case a9 => k_is)
    (case l9 => k_is)
    (case c9 => k_is)
    (case k9 => k_is)
    (case i9 => k_is)
    (case a10 => k_is)
    (case l10 => k_is)
    (case c10 => k_is)
    (case k10 => k_is)
    (case i10 => k_is)
    (case a11 => k_is)
    (case l11 => k_is)
    (case c11 => k_is)
    (case k11 => k_is)
    (case i11 => k_is)
    (case a12 => k_is)
    (case l12 => k_is)
    (case c12 => k_is)
    (case k12 => k_is)
    (case a13 => k_is)
    (case l13 => k_is)
    (case c13 => k_is)
    (case k13 => k_is)
    (case a14 => k_is)
    (case l14 => k_is)
    (case c14 => k_is)
    (case k14 => k_is)
    (case a15 => k_is)
    (case l15 => k_is)
    (case c15 => k_is)
    (case k15 => k_is)
    (case a16 => k_is)
    (case l16 => k_is)
    (case c16 => k_is)
    (case k16 => k_is)
    (case a17 => k_is)
    (case l17 => k_is)
    (case c17 => k_is)
    (case k17 => k_is)
    (case a18 => k_is)
    (case l18 => k_is)
    (case c18 => k_is)
    (case k18 => k_is)
    (case a19 => k_is)
    (case l19 => k_is)
    (case c19 => k_is)
    (case k19 => k_is)
    (case i19 => k_is)
    (case a20 => k_is)
    (case l20 => k_is)
    (case c20 => k_is)
    (case k20 => k_is)
    (case i20 => k_is)
    (case a21 => k_is)
    (case l21 => k_is)
    (case c21 => k_is)
    (case k21 => k_is)
    (case i21 => k_is)
    (case a22 => k_is)
    (case l22 => k_is)
    (case c22 => k_is)
    (case k22 => k_is)
    (case i22 => k_is)
    (case a23 => k_is)
    (case l23 => k_is)
    (case c23 => k_is)
    (case k23 => k_is)
    (case i23 => k_is)
    (case a24 => k_is)
    (case l24 => k_is)
    (case c24 => k_is)
    (case k24 => k_is)
    (case i24 => k_is)
    (case a25 => k_is)
    (case l25 => k_is)
    (case c25 => k_is)
    (case k25 => k_is)
    (case i25 => k_is)
    (case a26 => k_is)
    (case l26 => k_is)
    (case c26 => k_is)
    (case k26 => k_is)
    (case a27 => k_is)
    (case l27 => k_is)
    (case c27 => k_is)
    (case k27 => k_is)
    (case a28 => k_is)
    (case l28 => k_is)
    (case c28 => k_is)
    (case k28 => k_is)
    (case i28 => k_is)
    (case a29 => k_is)
    (case l29 => k_is)
    (case c29 => k_is)
    (case k29 => k_is)
    (case i29 => k_is)
    (case a30 => k_is)
    (case l30 => k_is)
    (case c30 => k_is)
    (case k30 => k_is)
    (case i30 => k_is)
    (case a31 => k_is)
    (case l31 => k_is)
    (case c31 => k_is)
    (case k31 => k_is)
    (case i31 => k_is)
    (case a32 => k_is)
    (case l32 => k_is)
    (case c32 => k_is)
    (case k32 => k_is)
    (case i32 => k_is)
    (case a33 => k_is)
    (case l33 => k_is)
    (case c33 => k_is)
    (case k33 => k_is)
    (case i33 => k_is)
    (case a34 => k_is)
    (case l34 => k_is)
    (case c34 => k_is)
    (case k34 => k_is)
    (case i34 => k_is)
    (case a35 => k_is)
    (case l35 => k_is)
    (case c35 => k_is)
    (case k35 => k_is)
    (case i35 => k_is)
    (case a36 => k_is)
    (case l36 => k_is)
    (case c36 => k_is)
    (case k36 => k_is)
    (case i36 => k_is)
    (case a37 => k_is)
    (case l37 => k_is)
    (case c37 => k_is)
    (case k37 => k_is)
    (case i37 => k_is)
    (case a38 => k_is)
    (case l38 => k_is)
    (case c38 => k_is)
    (case k38 => k_is)
    (case i38 => k_is)
    (case a39 => k_is)
    (case l39 => k_is)
    (case c39 => k_is)
    (case k39 => k_is)
    (case i39 => k_is)
    (case a40 => k_is)
    (case l40 => k_is)
    (case c40 => k_is)
    (case k40 => k_is)
    (case i40 => k_is)
    (case a41 => k_is)
    (case l41 => k_is)
    (case c41 => k_is)
    (case k41 => k_is)
    (case i41 => k_is)
    (case a42 => k_is)
    (case l42 => k_is)
    (case c42 => k_is)
    (case k42 => k_is)
    (case i42 => k_is)
    (case a43 => k_is)
    (case l43 => k_is)
    (case c43 => k_is)
    (case k43 => k_is)
    (case i43 => k_is)
    (case a44 => k_is)
    (case l44 => k_is)
    (case c44 => k_is)
    (case k44 => k_is)
    (case i44 => k_is)
    (case a45 => k_is)
    (case l45 => k_is)
    (case c45 => k_is)
    (case k45 => k_is)
    (case i45 => k_is)
    (case a46 => k_is)
    (case l46 => k_is)
    (case c46 => k_is)
    (case k46 => k_is)
    (case i46 => k_is)
    (case a47 => k_is)
    (case l47 => k_is)
    (case c47 => k_is)
    (case k47 => k_is)
    (case i47 => k_is)
    (case a48 => k_is)
    (case l48 => k_is)
    (case c48 => k_is)
    (case k48 => k_is)
    (case i48 => k_is)
    (case a49 => k_is)
    (case l49 => k_is)
    (case c49 => k_is)
    (case k49 => k_is)
    (case i49 => k_is)
    (case a50 => k_is)
    (case l50 => k_is)
    (case c50 => k_is)
    (case k50 => k_is)
    (case i50 => k_is)
    (case a51 => k_is)
    (case l51 => k_is)
    (case c51 => k_is)
    (case k51 => k_is)
    (case i51 => k_is)
    (case a52 => k_is)
    (case l52 => k_is)
    (case c52 => k_is)
    (case k52 => k_is)
    (case i52 => k_is)
    (case a53 => k_is)
    (case l53 => k_is)
    (case c53 => k_is)
    (case k53 => k_is)
    (case a54 => k_is)
    (case l54 => k_is)
    (case c54 => k_is)
    (case k54 => k_is)
    (case a55 => k_is)
    (case l55 => k_is)
    (case c55 => k_is)
    (case k55 => k_is)
    (case a56 => k_is)
    (case l56 => k_is)
    (case c56 => k_is)
    (case k56 => k_is)
    (case i56 => k_is)
    (case a57 => k_is)
    (case l57 => k_is)
    (case c57 => k_is)
    (case k57 => k_is)
    (case i57 => k_is)
    (case a58 => k_is)
    (case l58 => k_is)
    (case c58 => k_is)
    (case k58 => k_is)
    (case i58 => k_is)
    (case a59 => k_is)
    (case l59 => k_is)
    (case c59 => k_is)
    (case k59 => k_is)
    (case i59 => k_is)
    (case a60 => k_is)
    (case l60 => k_is)
    (case c60 => k_is)
    (case k60 => k_is)
    (case i60 => k_is)
    (case a61 => k_is)
    (case l61 => k_is)
    (case c61 => k_is)
    (case k61 => k_is)
    (case i61 => k_is)
    (case a62 => k_is)
    (case l62 => k_is)
    (case c62 => k_is)
    (case k62 => k_is)
    (case i62 => k_is)
    (case a63 => k_is)
    (case l63 => k_is)
    (case c63 => k_is)
    (case k63 => k_is)
    (case i63 => k_is)
    (case a64 => k_is)
    (case l64 => k_is)
    (case c64 => k_is)
    (case k64 => k_is)
    (case i64 => k_is)
    (case a65 => k_is)
    (case l65 => k_is)
    (case c65 => k_is)
    (case k65 => k_is)
    (case i65 => k_is)
    (case a66 => k_is)
    (case l66 => k_is)
    (case c66 => k_is)
    (case k66 => k_is)
    (case i66 => k_is)
    (case a67 => k_is)
    (case l67 => k_is)
    (case c67 => k_is)
    (case k67 => k_is)
    (case i67 => k_is)
    (case a68 => k_is)
    (case l68 => k_is)
    (case c68 => k_is)
    (case k68 => k_is)
    (case i68 => k_is)
    (case a69 => k_is)
    (case l69 => k_is)
    (case c69 => k_is)
    (case k69 => k_is)
    (case i69 => k_is)
    (case a70 => k_is)
    (case l70 => k_is)
    (case c70 => k_is)
    (case k70 => k_is)
    (case i70 => k_is)
    (case a71 => k_is)
    (case l71 => k_is)
    (case c71 => k_is)
    (case k71 => k_is)
    (case i71 => k_is)
    (case a72 => k_is)
    (case l72 => k_is)
    (case c72 => k_is)
    (case k72 => k_is)
    (case i72 => k_is)
    (case a73 => k_is)
    (case l73 => k_is)
    (case c73 => k_is)
    (case k73 => k_is)
    (case i73 => k_is)
    (case a74 => k_is)
    (case l74 => k_is)
    (case c74 => k_is)
    (case k74 => k_is)
    (case i74 => k_is)
    (case a75 => k_is)
    (case l75 => k_is)
    (case c75 => k_is)
    (case k75 => k_is)
    (case i75 => k_is)
    (case a76 => k_is)
    (case l76 => k_is)
    (case c76 => k_is)
    (case k76 => k_is)
    (case i76 => k_is)
    (case a77 => k_is)
    (case l77 => k_is)
    (case c77 => k_is)
    (case k77 => k_is)
    (case i77 => k_is)
    (case a78 => k_is)
    (case l78 => k_is)
    (case c78 => k_is)
    (case k78 => k_is)
    (case i78 => k_is)
    (case a79 => k_is)
    (case l79 => k_is)
    (case c79 => k_is)
    (case k79 => k_is)
    (case i79 => k_is)
    (case a80 => k_is)
    (case l80 => k_is)
    (case c80 => k_is)
    (case k80 => k_is)
    (case i80 => k_is)
    (case a81 => k_is)
    (case l81 => k_is)
    (case c81 => k_is)
    (case k81 => k_is)
    (case i81 => k_is)
    (case a82 => k_is)
    (case l82 => k_is)
    (case c82 => k_is)
    (case k82 => k_is)
    (case i82 => k_is)
    (case a83 => k_is)
    (case l83 => k_is)
    (case c83 => k_is)
    (case k83 => k_is)
    (case i83 => k_is)
    (case a84 => k_is)
    (case l84 => k_is)
    (case c84 => k_is)
    (case k84 => k_is)
    (case i84 => k_is)
    (case a85 => k_is)
    (case l85 => k_is)
    (case c85 => k_is)
    (case k85 => k_is)
    (case i85 => k_is)
    (case a86 => k_is)
    (case l86 => k_is)
    (case c86 => k_is)
    (case k86 => k_is)
    (case a87 => k_is)
    (case l87 => k_is)
    (case c87 => k_is)
    (case k87 => k_is)
    (case al_is_safe_ends => k_is)
    (case al_locked_ends => k_is)
    (case pgB => k_is)
    (case hdB => k_is)
    (case poB => k_is)
    (case saB => k_is)
    (case mB => k_is)
    (case pB => k_is)
    (case pgR => k_is)
    (case hdR => k_is)
    (case poR => k_is)
    (case saR => k_is)
    (case mR => k_is)
    (case pR => k_is)
    (case pgH => k_is)
    (case hdH => k_is)
    (case poH => k_is)
    (case saH => k_is)
    (case mH => k_is)
    (case pH => k_is)
    (case pgD => k_is)
    (case hdD => k_is)
    (case poD => k_is)
    (case saD => k_is)
    (case mD => k_is)
    (case pD => k_is)
    (case pgO => k_is)
    (case hdO => k_is)
    (case poO => k_is)
    (case saO => k_is)
    (case mO => k_is)
    (case pO => k_is)
    (case nB_number => k_is)
    (case nB_alternatives => k_is)
    (case nB_held => k_is)
    (case nB_request => k_is)
    (case nR_number => k_is)
    (case nR_things => k_is)
    (case nH_totals => k_is)
    (case nH_batches => k_is)
    (case nH_many_waited => k_is)
    (case nD_house => k_is)
    (case nO_batches => k_is)
    (case nO_free_first => k_is)
    (case nO_known => k_is)
    (case b_all => k_is)
    (case b_any => k_is)
    (case b_dict => k_is)
    (case b_enumerate => k_is)
    (case b_int => k_is)
    (case b_len => k_is)
    (case b_list => k_is)
    (case b_min => k_is)
    (case b_range => k_is)
    (case b_reversed => k_is)
    (case b_set => k_is)
    (case b_sorted => k_is)
    (case b_sum => k_is)
    (case b_tuple => k_is)
    (case b_zip => k_is)
    (case q_BAD_ROW => k_is)
    (case q_FULL => k_is)
    (case q_MOST_ALTERNATIVES => k_is)
    (case q_MOST_BATCHES => k_is)
    (case q_MOST_KINDS => k_is)
    (case q_MOST_MORE => k_is)
    (case q_MOST_NUMBER => k_is)
    (case q_NONE_SUCH => k_is)
    (case q_NOT_FREE => k_is)
    (case q_NOT_SAFE => k_is)
    (case q_NOT_SO_MUCH => k_is)
    (case q_OUT_OF_RANGE => k_is)
    (case q_THERE_ALREADY => k_is)
    (case q_WAITING => k_is)
    (case q_WITH_ID => k_is)
    (case tuW => k_is)
    (case q_OF_BATCH => k_is)
    (case tuV => k_is)
    (case xL => k_is)
    (case xsa => k_is)
    (case xga => k_is)
    (case xgg => k_is)
    (case xno => k_is)
    (case xex => k_is)
    (case xhd => k_is)
    (case xty => k_is)
    (case xkc => k_is)
    (case xte => k_is)
    (case xti => k_is)
    (case xve => k_is)
    (case xge => k_is)
  case S =>
    intro K H xs a hO hwi hask hx
    cases hx with
    | cons h1 h2 =>
      cases h2
      cases h1 with
      | lst hs ha =>
        have e := L2.ints_dw a.1 _ ha
        subst e
        exact ⟨_, a.1, rfl, hs, G.len_of hwi, hask, fun H' p hp => .lst (L2.SqL.of hp) (L2.dw_ints _)⟩
